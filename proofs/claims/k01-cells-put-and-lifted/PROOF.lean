import PyProof.Rows.All
import Wide.All
import OpenK.AllK
import Wide.FinOn
import HandS.ForMost
import HandS.ForExc
import HandS.DictTup
import HandS.TupLen
import HandS.Deep
import HandS.IsInst
import HandS.ExcIs
import HandS.Conv
import HandS.SortRule
import HandS.StrMore
import HandS.Replace
import PyProof.DictMoreH
import PySem.Challenge.RW_sidechain_k01_cells_put_and_lifted
set_option Elab.async false
set_option maxRecDepth 100000
set_option maxHeartbeats 4000000
namespace SC
abbrev Cell := Int × Int

/-- b is a neighbour of a -/
def Adj (a b : Cell) : Prop :=
  (b.1 = a.1 - 1 ∧ b.2 = a.2) ∨ (b.1 = a.1 - 1 ∧ b.2 = a.2 + 1) ∨ (b.1 = a.1 ∧ b.2 = a.2 - 1) ∨
  (b.1 = a.1 ∧ b.2 = a.2 + 1) ∨ (b.1 = a.1 + 1 ∧ b.2 = a.2 - 1) ∨ (b.1 = a.1 + 1 ∧ b.2 = a.2)

theorem Adj.symm {a b : Cell} (h : Adj a b) : Adj b a := by unfold Adj at *; omega

inductive Linked (S : Cell → Prop) : Cell → Cell → Prop
  | refl {a : Cell} : S a → Linked S a a
  | snoc {a b c : Cell} : Linked S a b → Adj b c → S c → Linked S a c

theorem Linked.trans {S : Cell → Prop} {a b c : Cell} (h : Linked S a b) (g : Linked S b c) : Linked S a c := by
  induction g with
  | refl _ => exact h
  | snoc _ e s ih => exact .snoc ih e s
theorem Linked.left {S : Cell → Prop} {a b : Cell} (h : Linked S a b) : S a := by
  induction h with
  | refl s => exact s
  | snoc _ _ _ ih => exact ih
theorem Linked.right {S : Cell → Prop} {a b : Cell} (h : Linked S a b) : S b := by
  cases h with
  | refl s => exact s
  | snoc _ _ s => exact s
theorem Linked.cons {S : Cell → Prop} {a b c : Cell} (s : S a) (e : Adj a b) (g : Linked S b c) : Linked S a c :=
  (Linked.snoc (.refl s) e g.left).trans g
theorem Linked.symm {S : Cell → Prop} {a b : Cell} (h : Linked S a b) : Linked S b a := by
  induction h with
  | refl s => exact .refl s
  | snoc _ e s ih => exact .cons s e.symm ih
theorem Linked.mono {S U : Cell → Prop} {a b : Cell} (h : Linked S a b) (k : ∀ c, S c → U c) : Linked U a b := by
  induction h with
  | refl s => exact .refl (k _ s)
  | snoc _ e s ih => exact .snoc ih e (k _ s)
theorem Linked.map {S U : Cell → Prop} {a b : Cell} (f : Cell → Cell) (h : Linked S a b) (k : ∀ c, S c → U (f c)) (e : ∀ c d, Adj c d → Adj (f c) (f d)) : Linked U (f a) (f b) := by
  induction h with
  | refl s => exact .refl (k _ s)
  | snoc _ q s ih => exact .snoc ih (e _ _ q) (k _ s)
/-- what holds at the first and goes over each step holds at the last -/
theorem Linked.ind {S : Cell → Prop} {a b : Cell} (P : Cell → Prop) (h : Linked S a b) (h0 : P a) (hs : ∀ c d, S c → S d → Adj c d → P c → P d) : P b := by
  induction h with
  | refl _ => exact h0
  | snoc g e s ih => exact hs _ _ g.right s e ih

def flip (c : Cell) : Cell := (c.2, c.1)
theorem Adj.flip {a b : Cell} (h : Adj a b) : Adj (flip a) (flip b) := by
  unfold Adj at h
  show ((b.2 = a.2 - 1 ∧ b.1 = a.1) ∨ (b.2 = a.2 - 1 ∧ b.1 = a.1 + 1) ∨ (b.2 = a.2 ∧ b.1 = a.1 - 1) ∨
    (b.2 = a.2 ∧ b.1 = a.1 + 1) ∨ (b.2 = a.2 + 1 ∧ b.1 = a.1 - 1) ∨ (b.2 = a.2 + 1 ∧ b.1 = a.1))
  omega

/-! ### the board with three sides -/
def T (n : Int) (c : Cell) : Prop := 0 ≤ c.1 ∧ 0 ≤ c.2 ∧ c.1 + c.2 < n
def On (n : Int) (S : Cell → Prop) (c : Cell) : Prop := T n c ∧ S c
structure YWin (n : Int) (S : Cell → Prop) : Prop where
  ex : ∃ x a b c, Linked (On n S) x a ∧ a.1 = 0 ∧ Linked (On n S) x b ∧ b.2 = 0 ∧ Linked (On n S) x c ∧ c.1 + c.2 = n - 1

def Maj (S : Cell → Prop) (t : Cell) : Prop :=
  (S t ∧ S (t.1 + 1, t.2)) ∨ (S t ∧ S (t.1, t.2 + 1)) ∨ (S (t.1 + 1, t.2) ∧ S (t.1, t.2 + 1))
/-- a is one of the three cells of t -/
def Tri (t a : Cell) : Prop := a = t ∨ a = (t.1 + 1, t.2) ∨ a = (t.1, t.2 + 1)

theorem maj_not (S : Cell → Prop) (t : Cell) : Maj (fun c => ¬ S c) t ↔ ¬ Maj S t := by
  unfold Maj
  by_cases h1 : S t <;> by_cases h2 : S (t.1 + 1, t.2) <;> by_cases h3 : S (t.1, t.2 + 1) <;> simp [h1, h2, h3]

theorem tri_T {n : Int} {t a : Cell} (h : T (n - 1) t) (g : Tri t a) : T n a := by
  unfold T at *
  rcases g with rfl | rfl | rfl
  · omega
  · dsimp only; omega
  · dsimp only; omega

theorem tri_eqadj {t a b : Cell} (g : Tri t a) (h : Tri t b) : a = b ∨ Adj a b := by
  rcases g with rfl | rfl | rfl <;> rcases h with rfl | rfl | rfl <;> first | (left; rfl) | (right; unfold Adj; dsimp only; omega)

theorem tri_link {n : Int} {S : Cell → Prop} {t a b : Cell} (h : T (n - 1) t) (ga : Tri t a) (gb : Tri t b) (sa : S a) (sb : S b) : Linked (On n S) a b := by
  rcases tri_eqadj ga gb with e | e
  · subst e; exact .refl ⟨tri_T h ga, sa⟩
  · exact .snoc (.refl ⟨tri_T h ga, sa⟩) e ⟨tri_T h gb, sb⟩

theorem maj_two {S : Cell → Prop} {t : Cell} (m : Maj S t) : ∃ a, Tri t a ∧ S a := by
  rcases m with m | m | m
  · exact ⟨_, .inl rfl, m.1⟩
  · exact ⟨_, .inl rfl, m.1⟩
  · exact ⟨_, .inr (.inl rfl), m.1⟩

/-- two neighbouring triangles: cells of both that are one or neighbours -/
theorem maj_next {S : Cell → Prop} {t u : Cell} (mt : Maj S t) (mu : Maj S u) (e : Adj t u) : ∃ a b, Tri t a ∧ Tri u b ∧ S a ∧ S b ∧ (a = b ∨ Adj a b) := by
  obtain ⟨i, j⟩ := t
  obtain ⟨k, l⟩ := u
  unfold Maj at mt mu
  dsimp only at mt mu
  have key : ∀ a b, S a → S b → Tri (i, j) a → Tri (k, l) b → (a = b ∨ Adj a b) → ∃ a b, Tri (i, j) a ∧ Tri (k, l) b ∧ S a ∧ S b ∧ (a = b ∨ Adj a b) := fun a b sa sb ta tb h => ⟨a, b, ta, tb, sa, sb, h⟩
  unfold Adj at e
  dsimp only at e
  have t0 : Tri (i, j) (i, j) := .inl rfl
  have t1 : Tri (i, j) (i + 1, j) := .inr (.inl rfl)
  have t2 : Tri (i, j) (i, j + 1) := .inr (.inr rfl)
  have u0 : Tri (k, l) (k, l) := .inl rfl
  have u1 : Tri (k, l) (k + 1, l) := .inr (.inl rfl)
  have u2 : Tri (k, l) (k, l + 1) := .inr (.inr rfl)
  have dec : ∀ a b : Cell, ((a.1 = b.1 ∧ a.2 = b.2) ∨ Adj a b) → (a = b ∨ Adj a b) := fun a b h => h.imp (fun q => Prod.ext q.1 q.2) id
  rcases mt with ⟨m1, m2⟩ | ⟨m1, m2⟩ | ⟨m1, m2⟩ <;> rcases mu with ⟨n1, n2⟩ | ⟨n1, n2⟩ | ⟨n1, n2⟩ <;>
  first
  | (rcases e with e | e | e | e | e | e <;>
      first
      | exact key _ _ m1 n1 (by assumption) (by assumption) (dec _ _ (by unfold Adj; dsimp only; omega))
      | exact key _ _ m1 n2 (by assumption) (by assumption) (dec _ _ (by unfold Adj; dsimp only; omega))
      | exact key _ _ m2 n1 (by assumption) (by assumption) (dec _ _ (by unfold Adj; dsimp only; omega))
      | exact key _ _ m2 n2 (by assumption) (by assumption) (dec _ _ (by unfold Adj; dsimp only; omega)))

theorem lift_link {n : Int} {S : Cell → Prop} {t u : Cell} (h : Linked (On (n - 1) (Maj S)) t u) : ∀ {a b : Cell}, Tri t a → S a → Tri u b → S b → Linked (On n S) a b := by
  induction h with
  | refl s => exact fun ta sa tb sb => tri_link s.1 ta tb sa sb
  | snoc g e s ih =>
    intro a b ta sa tb sb
    obtain ⟨p, q, tp, tq, sp, sq, r⟩ := maj_next g.right.2 s.2 e
    have h1 := ih ta sa tp sp
    have h2 := tri_link (S := S) s.1 tq tb sq sb
    rcases r with r | r
    · subst r; exact h1.trans h2
    · exact (h1.snoc r h2.left).trans h2

theorem y_lift {n : Int} {S : Cell → Prop} (h : YWin (n - 1) (Maj S)) : YWin n S := by
  obtain ⟨x, a, b, c, ha, ea, hb, eb, hc, ec⟩ := h.ex
  obtain ⟨y, ty, sy⟩ := maj_two ha.left.2
  have h1 : ∃ a', Tri a a' ∧ S a' ∧ a'.1 = 0 := by
    rcases ha.right.2 with m | m | m
    · exact ⟨_, .inl rfl, m.1, ea⟩
    · exact ⟨_, .inl rfl, m.1, ea⟩
    · exact ⟨_, .inr (.inr rfl), m.2, ea⟩
  have h2 : ∃ b', Tri b b' ∧ S b' ∧ b'.2 = 0 := by
    rcases hb.right.2 with m | m | m
    · exact ⟨_, .inl rfl, m.1, eb⟩
    · exact ⟨_, .inl rfl, m.1, eb⟩
    · exact ⟨_, .inr (.inl rfl), m.1, eb⟩
  have h3 : ∃ c', Tri c c' ∧ S c' ∧ c'.1 + c'.2 = n - 1 := by
    rcases hc.right.2 with m | m | m
    · exact ⟨_, .inr (.inl rfl), m.2, by dsimp only; omega⟩
    · exact ⟨_, .inr (.inr rfl), m.2, by dsimp only; omega⟩
    · exact ⟨_, .inr (.inl rfl), m.1, by dsimp only; omega⟩
  obtain ⟨a', ta, sa, ea'⟩ := h1
  obtain ⟨b', tb, sb, eb'⟩ := h2
  obtain ⟨c', tc, sc, ec'⟩ := h3
  exact ⟨y, a', b', c', lift_link ha ty sy ta sa, ea', lift_link hb ty sy tb sb, eb', lift_link hc ty sy tc sc, ec'⟩

theorem edge_tri {n : Int} {S : Cell → Prop} {a b : Cell} (sa : On n S a) (sb : On n S b) (e : Adj a b) : ∃ t, On (n - 1) (Maj S) t ∧ Tri t a ∧ Tri t b := by
  obtain ⟨i, j⟩ := a
  obtain ⟨k, l⟩ := b
  obtain ⟨ta, sa⟩ := sa
  obtain ⟨tb, sb⟩ := sb
  unfold T at ta tb
  unfold Adj at e
  dsimp only at ta tb e
  have pe : ∀ {p q r s : Int}, p = r → q = s → ((p, q) : Cell) = (r, s) := fun h g => by rw [h, g]
  rcases e with e | e | e | e | e | e
  · have eb : ((k, l) : Cell) = (i - 1, j) := pe e.1 e.2
    have ea : ((i, j) : Cell) = (i - 1 + 1, j) := pe (by omega) rfl
    exact ⟨(i - 1, j), ⟨⟨by dsimp only; omega, by dsimp only; omega, by dsimp only; omega⟩, .inl ⟨eb ▸ sb, by show S (i - 1 + 1, j); exact ea ▸ sa⟩⟩, .inr (.inl ea), .inl eb⟩
  · have eb : ((k, l) : Cell) = (i - 1, j + 1) := pe e.1 e.2
    have ea : ((i, j) : Cell) = (i - 1 + 1, j) := pe (by omega) rfl
    exact ⟨(i - 1, j), ⟨⟨by dsimp only; omega, by dsimp only; omega, by dsimp only; omega⟩, .inr (.inr ⟨by show S (i - 1 + 1, j); exact ea ▸ sa, eb ▸ sb⟩)⟩, .inr (.inl ea), .inr (.inr eb)⟩
  · have eb : ((k, l) : Cell) = (i, j - 1) := pe e.1 e.2
    have ea : ((i, j) : Cell) = (i, j - 1 + 1) := pe rfl (by omega)
    exact ⟨(i, j - 1), ⟨⟨by dsimp only; omega, by dsimp only; omega, by dsimp only; omega⟩, .inr (.inl ⟨eb ▸ sb, by show S (i, j - 1 + 1); exact ea ▸ sa⟩)⟩, .inr (.inr ea), .inl eb⟩
  · have eb : ((k, l) : Cell) = (i, j + 1) := pe e.1 e.2
    exact ⟨(i, j), ⟨⟨by dsimp only; omega, by dsimp only; omega, by dsimp only; omega⟩, .inr (.inl ⟨sa, eb ▸ sb⟩)⟩, .inl rfl, .inr (.inr eb)⟩
  · have eb : ((k, l) : Cell) = (i + 1, j - 1) := pe e.1 e.2
    have ea : ((i, j) : Cell) = (i, j - 1 + 1) := pe rfl (by omega)
    exact ⟨(i, j - 1), ⟨⟨by dsimp only; omega, by dsimp only; omega, by dsimp only; omega⟩, .inr (.inr ⟨eb ▸ sb, by show S (i, j - 1 + 1); exact ea ▸ sa⟩)⟩, .inr (.inr ea), .inr (.inl eb)⟩
  · have eb : ((k, l) : Cell) = (i + 1, j) := pe e.1 e.2
    exact ⟨(i, j), ⟨⟨by dsimp only; omega, by dsimp only; omega, by dsimp only; omega⟩, .inl ⟨sa, eb ▸ sb⟩⟩, .inl rfl, .inr (.inl eb)⟩

theorem tri_share {t u a : Cell} (h : Tri t a) (g : Tri u a) : t = u ∨ Adj t u := by
  obtain ⟨i, j⟩ := t
  obtain ⟨k, l⟩ := u
  obtain ⟨p, q⟩ := a
  have dec : ((i = k ∧ j = l) ∨ Adj (i, j) (k, l)) → ((i, j) = (k, l) ∨ Adj (i, j) (k, l)) := fun h => h.imp (fun q => Prod.ext q.1 q.2) id
  apply dec
  unfold Tri at h g
  simp only [Prod.mk.injEq] at h g
  unfold Adj
  dsimp only
  omega

theorem lower_link {n : Int} {S : Cell → Prop} {a b t : Cell} (h : Linked (On n S) a b) (ht : On (n - 1) (Maj S) t) (ta : Tri t a) : ∃ u, Linked (On (n - 1) (Maj S)) t u ∧ Tri u b := by
  induction h with
  | refl s => exact ⟨t, .refl ht, ta⟩
  | snoc g e s ih =>
    obtain ⟨u, hu, tu⟩ := ih
    obtain ⟨v, hv, tv, tv'⟩ := edge_tri g.right s e
    rcases tri_share tu tv with q | q
    · subst q; exact ⟨u, hu, tv'⟩
    · exact ⟨v, hu.snoc q hv, tv'⟩

theorem Linked.moves {S : Cell → Prop} {a b : Cell} (h : Linked S a b) : a = b ∨ ∃ z, Adj a z ∧ S z := by
  induction h with
  | refl _ => exact .inl rfl
  | snoc g e s ih =>
    rcases ih with q | q
    · subst q; exact .inr ⟨_, e, s⟩
    · exact .inr q

theorem y_lower {n : Int} {S : Cell → Prop} (hn : 2 ≤ n) (h : YWin n S) : YWin (n - 1) (Maj S) := by
  obtain ⟨x, a, b, c, ha, ea, hb, eb, hc, ec⟩ := h.ex
  have hx : ∃ z, Adj x z ∧ On n S z := by
    rcases ha.moves with q | q
    · rcases hb.moves with r | r
      · rcases hc.moves with s | s
        · subst q; subst r; subst s; omega
        · exact s
      · exact r
    · exact q
  obtain ⟨z, ez, sz⟩ := hx
  obtain ⟨t, ht, tx, _⟩ := edge_tri ha.left sz ez
  obtain ⟨a', la, ta⟩ := lower_link ha ht tx
  obtain ⟨b', lb, tb⟩ := lower_link hb ht tx
  obtain ⟨c', lc, tc⟩ := lower_link hc ht tx
  have ra := la.right.1
  have rb := lb.right.1
  have rc := lc.right.1
  unfold T at ra rb rc
  refine ⟨t, a', b', c', la, ?_, lb, ?_, lc, ?_⟩
  · rcases ta with q | q | q
    · rw [← q]; exact ea
    · rw [q] at ea; dsimp only at ea; omega
    · rw [q] at ea; exact ea
  · rcases tb with q | q | q
    · rw [← q]; exact eb
    · rw [q] at eb; exact eb
    · rw [q] at eb; dsimp only at eb; omega
  · rcases tc with q | q | q
    · rw [← q]; rw [← q] at rc; omega
    · rw [q] at ec; dsimp only at ec; omega
    · rw [q] at ec; dsimp only at ec; omega

theorem YWin.congr {n : Int} {S U : Cell → Prop} (h : YWin n S) (k : ∀ c, T n c → S c → U c) : YWin n U := by
  obtain ⟨x, a, b, c, ha, ea, hb, eb, hc, ec⟩ := h.ex
  have m : ∀ z, On n S z → On n U z := fun z q => ⟨q.1, k z q.1 q.2⟩
  exact ⟨x, a, b, c, ha.mono m, ea, hb.mono m, eb, hc.mono m, ec⟩

theorem y_one : ∀ (m : Nat) (S : Cell → Prop), (YWin (m + 1) S ∨ YWin (m + 1) fun c => ¬ S c) ∧ ¬ (YWin (m + 1) S ∧ YWin (m + 1) fun c => ¬ S c)
  | 0, S => by
    have t0 : T ((0 : Nat) + 1) (0, 0) := ⟨by decide, by decide, by decide⟩
    have one : ∀ U : Cell → Prop, U (0, 0) → YWin ((0 : Nat) + 1) U := fun U u =>
      ⟨(0, 0), (0, 0), (0, 0), (0, 0), .refl ⟨t0, u⟩, rfl, .refl ⟨t0, u⟩, rfl, .refl ⟨t0, u⟩, rfl⟩
    have back : ∀ U : Cell → Prop, YWin ((0 : Nat) + 1) U → U (0, 0) := fun U h => by
      obtain ⟨x, a, b, c, ha, ea, hb, eb, hc, ec⟩ := h.ex
      obtain ⟨⟨p, q, r⟩, u⟩ := ha.left
      have e : x = (0, 0) := Prod.ext (by show x.1 = 0; omega) (by show x.2 = 0; omega)
      rw [e] at u
      exact u
    refine ⟨?_, fun h => (back _ h.2) (back _ h.1)⟩
    by_cases h : S (0, 0)
    · exact .inl (one S h)
    · exact .inr (one _ h)
  | m + 1, S => by
    have e : ((m + 1 : Nat) : Int) + 1 - 1 = (m : Int) + 1 := by omega
    have ih := y_one m (Maj S)
    have up : ∀ U : Cell → Prop, YWin ((m : Int) + 1) (Maj U) → YWin (((m + 1 : Nat) : Int) + 1) U := fun U h => y_lift (by rw [e]; exact h)
    have down : ∀ U : Cell → Prop, YWin (((m + 1 : Nat) : Int) + 1) U → YWin ((m : Int) + 1) (Maj U) := fun U h => by
      have q := y_lower (by omega) h
      rw [e] at q
      exact q
    refine ⟨?_, fun h => ih.2 ⟨down _ h.1, (down _ h.2).congr fun c _ q => (maj_not S c).mp q⟩⟩
    rcases ih.1 with h | h
    · exact .inl (up _ h)
    · exact .inr (up _ (h.congr fun c _ q => (maj_not S c).mpr q))

theorem YWin.flip {n : Int} {S : Cell → Prop} (h : YWin n S) : YWin n fun c => S (SC.flip c) := by
  obtain ⟨x, a, b, c, ha, ea, hb, eb, hc, ec⟩ := h.ex
  have m : ∀ z, On n S z → On n (fun c => S (SC.flip c)) (SC.flip z) := fun z q => ⟨⟨q.1.2.1, q.1.1, by have := q.1.2.2; show z.2 + z.1 < n; omega⟩, q.2⟩
  exact ⟨SC.flip x, SC.flip b, SC.flip a, SC.flip c, hb.map _ m fun _ _ => Adj.flip, eb, ha.map _ m fun _ _ => Adj.flip, ea, hc.map _ m fun _ _ => Adj.flip, by show c.2 + c.1 = n - 1; omega⟩

/-! ### the board with four sides -/
def B (R C : Int) (c : Cell) : Prop := 0 ≤ c.1 ∧ c.1 < R ∧ 0 ≤ c.2 ∧ c.2 < C
def In (R C : Int) (S : Cell → Prop) (c : Cell) : Prop := B R C c ∧ S c
/-- from the first column to the last -/
def LR (R C : Int) (S : Cell → Prop) : Prop := ∃ a d, a.2 = 0 ∧ d.2 = C - 1 ∧ Linked (In R C S) a d
/-- from the first row to the last -/
def TB (R C : Int) (S : Cell → Prop) : Prop := ∃ a d, a.1 = 0 ∧ d.1 = R - 1 ∧ Linked (In R C S) a d

theorem lr_of_y {R C : Int} {S U : Cell → Prop} (hC : 1 ≤ C) (h : YWin (R + C - 1) U) (k : ∀ c, T (R + C - 1) c → U c → c.2 < C → c.1 < R ∧ S c) : LR R C S := by
  obtain ⟨x, a, b, c, ha, ea, hb, eb, hc, ec⟩ := h.ex
  have g := hb.symm.trans hc
  have inb : ∀ z, On (R + C - 1) U z → z.2 < C → In R C S z := fun z q r => ⟨⟨q.1.1, (k z q.1 q.2 r).1, q.1.2.1, r⟩, (k z q.1 q.2 r).2⟩
  have st : (∃ d, Linked (In R C S) b d ∧ d.2 = C - 1) ∨ Linked (In R C S) b c := by
    refine g.ind (fun z => (∃ d, Linked (In R C S) b d ∧ d.2 = C - 1) ∨ Linked (In R C S) b z) (.inr (.refl (inb b g.left (by omega)))) ?_
    intro c d sc sd e p
    rcases p with p | p
    · exact .inl p
    · by_cases q : c.2 = C - 1
      · exact .inl ⟨c, p, q⟩
      · have bc := p.right.1
        unfold B at bc
        unfold Adj at e
        exact .inr (p.snoc e (inb d sd (by omega)))
  rcases st with ⟨d, l, q⟩ | l
  · exact ⟨b, d, eb, q, l⟩
  · have bc := l.right.1
    unfold B at bc
    exact ⟨b, c, eb, by omega, l⟩

theorem y_of_lr {R C : Int} {S U : Cell → Prop} (h : LR R C S) (k : ∀ c, B R C c → S c → U c) (k2 : ∀ c, T (R + C - 1) c → C ≤ c.2 → U c) : YWin (R + C - 1) U := by
  obtain ⟨a, d, ea, ed, l⟩ := h
  have m : ∀ z, In R C S z → On (R + C - 1) U z := fun z q => ⟨by have := q.1; unfold B at this; unfold T; omega, k z q.1 q.2⟩
  have l2 := l.mono m
  have bd := l.right.1
  unfold B at bd
  have od := l2.right
  obtain ⟨r, cc⟩ := d
  dsimp only at ed bd
  subst ed
  -- up to the first row: along the column behind the last one
  have colU : ∀ (p : Nat), (p : Int) + C < R + C - 1 → ∀ q : Nat, q ≤ p → Linked (On (R + C - 1) U) ((p : Int), C) (((p - q : Nat) : Int), C) := fun p hp q => by
    have inU : ∀ j : Nat, j ≤ p → On (R + C - 1) U ((j : Int), C) := fun j hj => by
      have tj : T (R + C - 1) ((j : Int), C) := ⟨by dsimp only; omega, by dsimp only; omega, by dsimp only; omega⟩
      exact ⟨tj, k2 _ tj (Int.le_refl C)⟩
    induction q with
    | zero => exact fun _ => .refl (inU p (Nat.le_refl p))
    | succ q ih =>
      intro hq
      refine (ih (by omega)).snoc ?_ (inU (p - (q + 1)) (by omega))
      left
      dsimp only
      exact ⟨by omega, rfl⟩
  -- to the third side: along the row
  have rowU : ∀ (q : Nat), r + (C - 1) + q < R + C - 1 → Linked (On (R + C - 1) U) (r, C - 1) (r, C - 1 + q) := fun q => by
    induction q with
    | zero => exact fun _ => by rw [show C - 1 + ((0 : Nat) : Int) = C - 1 by omega]; exact .refl od
    | succ q ih =>
      intro hq
      have tq : T (R + C - 1) (r, C - 1 + ((q + 1 : Nat) : Int)) := ⟨by dsimp only; omega, by dsimp only; omega, by dsimp only; omega⟩
      refine (ih (by omega)).snoc ?_ ⟨tq, k2 _ tq (by dsimp only; omega)⟩
      right; right; right; left
      dsimp only
      exact ⟨rfl, by omega⟩
  have first : ∃ z, Linked (On (R + C - 1) U) (r, C - 1) z ∧ z.1 = 0 := by
    by_cases h0 : r = 0
    · exact ⟨_, .refl od, h0⟩
    · -- (r - 1, C) is a neighbour
      have hp : ((r - 1).toNat : Int) = r - 1 := by omega
      have h1 := colU (r - 1).toNat (by rw [hp]; omega) (r - 1).toNat (Nat.le_refl _)
      rw [hp, Nat.sub_self] at h1
      refine ⟨_, .cons od ?_ h1, rfl⟩
      right; left
      dsimp only
      exact ⟨rfl, by omega⟩
  have third : ∃ z, Linked (On (R + C - 1) U) (r, C - 1) z ∧ z.1 + z.2 = R + C - 1 - 1 := by
    have hq : ((R - 1 - r).toNat : Int) = R - 1 - r := by omega
    have h1 := rowU (R - 1 - r).toNat (by rw [hq]; omega)
    refine ⟨_, h1, ?_⟩
    dsimp only
    omega
  obtain ⟨z1, g1, e1⟩ := first
  obtain ⟨z3, g3, e3⟩ := third
  exact ⟨_, z1, a, z3, g1, e1, l2.symm, ea, g3, e3⟩

theorem lr_flip {R C : Int} {S : Cell → Prop} (h : LR R C fun c => S (flip c)) : TB C R S := by
  obtain ⟨a, d, ea, ed, l⟩ := h
  exact ⟨flip a, flip d, ea, ed, l.map flip (fun c q => ⟨⟨q.1.2.2.1, q.1.2.2.2, q.1.1, q.1.2.1⟩, q.2⟩) fun _ _ => Adj.flip⟩
theorem tb_flip {R C : Int} {S : Cell → Prop} (h : TB C R S) : LR R C fun c => S (flip c) := by
  obtain ⟨a, d, ea, ed, l⟩ := h
  exact ⟨flip a, flip d, ea, ed, l.map flip (fun c q => ⟨⟨q.1.2.2.1, q.1.2.2.2, q.1.1, q.1.2.1⟩, q.2⟩) fun _ _ => Adj.flip⟩

/-- the board seen as one with three sides: the first hand's cells and what lies behind the last column -/
def Ext (R C : Int) (S : Cell → Prop) (c : Cell) : Prop := C ≤ c.2 ∨ (c.1 < R ∧ S c)

theorem hex {R C : Int} (hR : 1 ≤ R) (hC : 1 ≤ C) (S : Cell → Prop) : (LR R C S ∨ TB R C fun c => ¬ S c) ∧ ¬ (LR R C S ∧ TB R C fun c => ¬ S c) := by
  have en : (((R + C - 2).toNat : Nat) : Int) + 1 = R + C - 1 := by omega
  have y := y_one (R + C - 2).toNat (Ext R C S)
  rw [en] at y
  constructor
  · rcases y.1 with h | h
    · refine .inl (lr_of_y hC h fun c _ u q => ?_)
      rcases u with u | u
      · omega
      · exact u
    · refine .inr (lr_flip (R := C) (C := R) (S := fun c => ¬ S c) ?_)
      have h2 := h.flip
      rw [show R + C - 1 = C + R - 1 by omega] at h2
      refine lr_of_y hR h2 fun c _ u q => ?_
      have u' : ¬ (C ≤ c.1 ∨ (c.2 < R ∧ S (flip c))) := u
      refine ⟨?_, fun s => u' (.inr ⟨q, s⟩)⟩
      have : ¬ C ≤ c.1 := fun z => u' (.inl z)
      omega
  · intro ⟨h1, h2⟩
    refine y.2 ⟨y_of_lr h1 (fun c b s => .inr ⟨b.2.1, s⟩) fun c _ q => .inl q, ?_⟩
    have h3 := tb_flip (R := C) (C := R) h2
    have y3 : YWin (C + R - 1) fun c => ¬ Ext R C S (flip c) := by
      refine y_of_lr h3 (fun c b s u => ?_) fun c t q u => ?_
      · have u' : C ≤ c.1 ∨ (c.2 < R ∧ S (flip c)) := u
        have s' : ¬ S (flip c) := s
        have b' := b.2.1
        rcases u' with u' | u'
        · omega
        · exact s' u'.2
      · have u' : C ≤ c.1 ∨ (c.2 < R ∧ S (flip c)) := u
        unfold T at t
        rcases u' with u' | u'
        · omega
        · omega
    have y4 := y3.flip
    rw [show C + R - 1 = R + C - 1 by omega] at y4
    exact y4
end SC
/-! # What all our proofs of this program share: contracts of defs, cells, dicts of cells, boards -/
namespace SC
open PySem L2

/-! ### contracts -/
section
variable {P : Program} {w : World} {K : PySem.W.Frag} {mg : Str → Option Value} {base : Heap}
theorem ofX0 {k : Nat} {f : Addr} {fd : FuncData} {ps : List Str} {sp : Sp} (F : FnOk P w K mg base CX0 k f fd ps sp) : FnOk P w K mg base (L2.CX P w) k f fd ps sp := by
  refine ⟨F.len, fun A outer s H args us vs Q E hr he hb hv hs => ?_⟩
  refine codeAny_mono (F.run A outer s H args us vs Q E hr he hb hv hs) fun r s' h => ?_
  cases r with
  | error e => exact False.elim h
  | ok fl => cases fl <;> exact h
end
/-- the name x stands for a def that keeps sp -/
structure Cl (P : Program) (w : World) (K : PySem.W.Frag) (mg : Str → Option Value) (base : Heap) (k : Nat) (x : Str) (sp : Sp) : Prop where
  ex : ∃ (f : Addr) (fd : FuncData) (ps : List Str), mg x = some (.ref f) ∧ PySem.W.keepIn K (.ref f) = true ∧ Binds K fd ps [] ∧ FnOk P w K mg base (L2.CX P w) k f fd ps sp
/-- the class at C has a method m that keeps sp -/
structure Mt (P : Program) (w : World) (K : PySem.W.Frag) (mg : Str → Option Value) (base : Heap) (k : Nat) (C : Addr) (m : Str) (sp : Sp) : Prop where
  ex : ∃ (f : Addr) (fd : FuncData) (ps : List Str), Meth K C m f ∧ Binds K fd ps [] ∧ FnOk P w K mg base (L2.CX P w) k f fd ps sp
/-- the name x stands for the class at C, made by an __init__ that keeps sp -/
structure Mkr (P : Program) (w : World) (K : PySem.W.Frag) (mg : Str → Option Value) (base : Heap) (k : Nat) (x : Str) (C : Addr) (sp : Sp) : Prop where
  ex : ∃ (f : Addr) (fd : FuncData) (ps : List Str), mg x = some (.ref C) ∧ Mk K C f ∧ Binds K fd ps [] ∧ FnOk P w K mg base (L2.CX P w) k f fd ps sp
section
variable {X : Cx} {k j : Nat} {x m : Str} {sp : Sp} {E : XK} {p pos apos : Pos} {e o : Expr} {es : List Expr} {t : TA} {ta : TE} {C : Addr}
theorem pe_cl (c : Cl X.prog X.w X.K X.mg X.base k x sp) (hr : Room j X.A) (hx : Passes (L2.CX X.prog X.w) X E) (ha : PA X (e :: es) t) (hk : k ≤ j := by decide) (hg : Gl X x := by rfl) (hdb : (x == ("__debug__" : Str)) = false := by decide)
    (he : starEach (e :: es) X.env = (false, eval e X.env) :: starEach es X.env := by rfl) (hpl : (backTo pos (starEach es X.env)).any (·.1) = false := by rfl) :
    PE X (.Call (.Name x p) (e :: es) [] pos) (tCall sp [] E t) := by
  obtain ⟨f, fd, ps, h1, h2, h3, h4⟩ := c.ex
  exact pe_call h4 (hr.mono hk) hg h1 h2 h3 .nil hx ha hdb he hpl
theorem pe_mth (c : Mt X.prog X.w X.K X.mg X.base k C m sp) (T : Cls X.K C) {pl : Sem Bool} (he : PE X o ta) (hr : Room j X.A) (hx : Passes (L2.CX X.prog X.w) X E) (ha : PA X (e :: es) t) (hk : k ≤ j := by decide)
    (hst : starEach (e :: es) X.env = (false, eval e X.env) :: starEach es X.env := by rfl) (hpl : (backTo pos (starEach es X.env)).any (·.1) = false := by rfl)
    (ht : eval (.Call (.Attribute o m apos) (e :: es) [] pos) X.env = (do
      let ov ← eval o X.env
      standAt apos.atName
      let (f, first) ← holding [ov] (getMethod ov m pl)
      callWith pos f first (backTo pos (starEach (e :: es) X.env)) (backToKw pos (keywordEach [] X.env))) := by rfl) :
    PE X (.Call (.Attribute o m apos) (e :: es) [] pos) (tMeth C m sp [] E ta t) := by
  obtain ⟨f, fd, ps, h1, h3, h4⟩ := c.ex
  exact pe_meth he T h1 h4 (hr.mono hk) h3 .nil hx ha hst hpl ht
theorem pe_mth0 (c : Mt X.prog X.w X.K X.mg X.base k C m sp) (T : Cls X.K C) {pl : Sem Bool} (he : PE X o ta) (hr : Room j X.A) (hx : Passes (L2.CX X.prog X.w) X E) (hk : k ≤ j := by decide)
    (ht : eval (.Call (.Attribute o m apos) [] [] pos) X.env = (do
      let ov ← eval o X.env
      standAt apos.atName
      let (f, first) ← holding [ov] (getMethod ov m pl)
      callWith pos f first (backTo pos (starEach [] X.env)) (backToKw pos (keywordEach [] X.env))) := by rfl) :
    PE X (.Call (.Attribute o m apos) [] [] pos) (tMeth C m sp [] E ta tNil) := by
  obtain ⟨f, fd, ps, h1, h3, h4⟩ := c.ex
  exact pe_meth0 he T h1 h4 (hr.mono hk) h3 .nil hx ht
theorem pe_mkr (c : Mkr X.prog X.w X.K X.mg X.base k x C sp) (hr : Room j X.A) (hx : Passes (L2.CX X.prog X.w) X E) (ha : PA X (e :: es) t) (hk : k + 1 ≤ j := by decide) (hg : Gl X x := by rfl) (hdb : (x == ("__debug__" : Str)) = false := by decide)
    (he : starEach (e :: es) X.env = (false, eval e X.env) :: starEach es X.env := by rfl) (hpl : (backTo pos (starEach es X.env)).any (·.1) = false := by rfl) :
    PE X (.Call (.Name x p) (e :: es) [] pos) (tMake C sp [] E t) := by
  obtain ⟨f, fd, ps, h1, h2, h3, h4⟩ := c.ex
  exact pe_make h2 h4 (hr.mono hk) hg h1 h3 .nil hx ha hdb he hpl

/-! ### the same within a try: what is raised is wished for at the slots as they stand -/
/-- o.m(e, ..) within a try -/
def tMthS (C : Addr) (m : Str) (sp : Sp) (E : L2.St → XK) (ta : TE) (t : TA) : TE := fun σ H Q => ta σ H fun x H1 => ∃ a dx fs, x = .ref a ∧ H1 a = some (.ins C dx fs) ∧ fs.lookup m = none ∧ t σ H1 fun vs H2 => sp (x :: vs) H2 Q (E σ)
theorem pe_mthS {ES : L2.St → XK} {pl : Sem Bool} (c : Mt X.prog X.w X.K X.mg X.base k C m sp) (T : Cls X.K C) (he : PE X o ta) (hr : Room j X.A) (hx : ∀ σ, PassesAt (L2.CX X.prog X.w) X σ (ES σ)) (ha : PA X (e :: es) t) (hk : k ≤ j := by decide)
    (hst : starEach (e :: es) X.env = (false, eval e X.env) :: starEach es X.env := by rfl) (hpl : (backTo pos (starEach es X.env)).any (·.1) = false := by rfl)
    (ht : eval (.Call (.Attribute o m apos) (e :: es) [] pos) X.env = (do
      let ov ← eval o X.env
      standAt apos.atName
      let (f, first) ← holding [ov] (getMethod ov m pl)
      callWith pos f first (backTo pos (starEach (e :: es) X.env)) (backToKw pos (keywordEach [] X.env))) := by rfl) :
    PE X (.Call (.Attribute o m apos) (e :: es) [] pos) (tMthS C m sp ES ta t) := by
  obtain ⟨f, fd, ps, hm, hb, F⟩ := c.ex
  have hr := hr.mono hk
  refine ⟨fun pins s σ H Q I h => ?_⟩
  refine PySem.W.methodCall_KW (pl := pl) (thn (he.run pins s σ H _ I h) fun u s1 ⟨x, H1, I1, rx, a, dx, fs, ex, ea, l, q⟩ => ?_) ht
  subst ex
  obtain rfl : u = Value.ref a := rx
  refine getmeth_ok I1 ea T hm l ?_
  refine PySem.W.callWith_K (first := [.ref a]) (h₀ := X.base) I.ok.mod.kin hm.kp (thn (ha.run pos pins s1 σ H1 _ I1 q) fun us s2 ⟨vs, H2, I2, r, q2⟩ => ⟨I2.kIn, ?_⟩) hst hpl
  exact run_fnS (us := .ref a :: us) (vs := .ref a :: vs) F hr hb (hx σ) I2 (.cons rfl r) q2
/-- f(e, ..) within a try -/
theorem pe_clS {ES : L2.St → XK} (c : Cl X.prog X.w X.K X.mg X.base k x sp) (hr : Room j X.A) (hx : ∀ σ, PassesAt (L2.CX X.prog X.w) X σ (ES σ)) (ha : PA X (e :: es) t) (hk : k ≤ j := by decide) (hg : Gl X x := by rfl) (hdb : (x == ("__debug__" : Str)) = false := by decide)
    (he : starEach (e :: es) X.env = (false, eval e X.env) :: starEach es X.env := by rfl) (hpl : (backTo pos (starEach es X.env)).any (·.1) = false := by rfl) :
    PE X (.Call (.Name x p) (e :: es) [] pos) (fun σ H Q => t σ H fun vs H1 => sp vs H1 Q (ES σ)) := by
  obtain ⟨f, fd, ps, hm, hkp, hb, F⟩ := c.ex
  have hr := hr.mono hk
  refine ⟨fun pins s σ H Q I h => ?_⟩
  refine wpAny_Call_Name_kw (ld_glob I hg hm ?_ hdb)
  refine PySem.W.callWith_K (h₀ := X.base) I.ok.mod.kin hkp (thn (ha.run pos pins s σ H _ I h) fun us s1 ⟨vs, H1, I1, r, q⟩ => ⟨I1.kIn, ?_⟩) he hpl
  exact run_fnS F hr hb (hx σ) I1 r q
/-- C(e, ..) within a try -/
theorem pe_mkrS {ES : L2.St → XK} (c : Mkr X.prog X.w X.K X.mg X.base k x C sp) (hr : Room j X.A) (hx : ∀ (σ : L2.St), PassesAt (L2.CX X.prog X.w) X σ (ES σ)) (ha : PA X (e :: es) t) (hk : k + 1 ≤ j := by decide) (hg : Gl X x := by rfl) (hdb : (x == ("__debug__" : Str)) = false := by decide)
    (he : starEach (e :: es) X.env = (false, eval e X.env) :: starEach es X.env := by rfl) (hpl : (backTo pos (starEach es X.env)).any (·.1) = false := by rfl) :
    PE X (.Call (.Name x p) (e :: es) [] pos) (fun σ H Q => t σ H fun vs H1 => ∀ x dx, H1 x = none → H1 dx = none → dx ≠ x →
      sp (.ref x :: vs) (upd (upd H1 dx (.own x)) x (.ins C dx [])) (fun v H2 => v = .non ∧ Q (.ref x) H2) (ES σ)) := by
  obtain ⟨f, fd, ps, hm, M, hb, F⟩ := c.ex
  have hr := hr.mono hk
  refine ⟨fun pins s σ H Q I h => ?_⟩
  refine wpAny_Call_Name_kw (ld_glob I hg hm ?_ hdb)
  refine PySem.W.callWith_K (h₀ := X.base) I.ok.mod.kin M.kp (thn (ha.run pos pins s σ H _ I h) fun us s1 ⟨vs, H1, I1, r, q⟩ => ⟨I1.kIn, ?_⟩) he hpl
  have hq := q (s1.heap.objs.size + 1) s1.heap.objs.size (I1.hok.fresh (Nat.le_succ _)) (I1.hok.fresh (Nat.le_refl _)) (Nat.ne_of_lt (Nat.lt_succ_self _))
  have I2 := Inv.made (C := C) I1
  have r2 : Vals (V.ref (s1.heap.objs.size + 1) :: vs) (Value.ref (s1.heap.objs.size + 1) :: us) := .cons rfl r
  have hl : ((Value.ref (s1.heap.objs.size + 1) :: us) ++ []).length = ps.length := by
    have e := r2.length
    rw [F.len _ _ _ _ hq] at e
    rw [List.append_nil]
    exact e.symm
  have hbb := hb _ (Value.ref (s1.heap.objs.size + 1) :: us) I2.kIn hl
  rw [List.append_nil] at hbb
  refine wpAny_call (make_map (f := f) I1.kIn M.makes M.init (beq_iff_eq.mp M.fn) (codeAny_mono (F.run _ X.stack _ _ ⟨Value.ref (s1.heap.objs.size + 1) :: us, []⟩ (Value.ref (s1.heap.objs.size + 1) :: us) _ _ (ES σ) (hr.make C us [])
    (I2.env0.make C us []) hbb r2 hq) fun r s' hq' => ?_))
  cases r with
  | error e => exact hx σ pins _ _ e s' I2 hq'
  | ok fl =>
    cases fl with
    | ret u =>
      obtain ⟨v, H', I3, rv, ev, q3⟩ := I2.after hq'
      subst ev
      exact ⟨rv, ⟨V.ref (s1.heap.objs.size + 1), H', I3, rfl, q3⟩⟩
    | next => exact False.elim hq'
    | brk => exact False.elim hq'
    | cont => exact False.elim hq'
end
section
variable {P : Program} {w : World} {K : PySem.W.Frag} {mg : Str → Option Value} {base : Heap}
theorem Cl.mk' {k : Nat} {x : Str} {sp : Sp} {qual : Str} {st : Stmt} {f : Addr} {fd : FuncData} {ps : List Str} (F : Fun K x qual st f fd) (hm : mg x = some (.ref f)) (hb : Binds K fd ps []) (h : FnOk P w K mg base (L2.CX P w) k f fd ps sp) : Cl P w K mg base k x sp := ⟨f, fd, ps, hm, F.kp, hb, h⟩
theorem Cl.mono {k j : Nat} {x : Str} {sp : Sp} (c : Cl P w K mg base k x sp) (h : k ≤ j) : Cl P w K mg base j x sp := by
  obtain ⟨f, fd, ps, h1, h2, h3, h4⟩ := c.ex
  exact ⟨f, fd, ps, h1, h2, h3, h4.mono h⟩
theorem Mt.mono {k j : Nat} {C : Addr} {m : Str} {sp : Sp} (c : Mt P w K mg base k C m sp) (h : k ≤ j) : Mt P w K mg base j C m sp := by
  obtain ⟨f, fd, ps, h1, h3, h4⟩ := c.ex
  exact ⟨f, fd, ps, h1, h3, h4.mono h⟩
end

/-- an own exception class as the top has made it -/
structure XC (K : PySem.W.Frag) (mg : Str → Option Value) (x : Str) (C : Addr) : Prop where
  g : mg x = some (.ref C)
  x : PySem.W.excIn K C [.type "ValueError", .type "Exception", .type "BaseException", .type "object"] "ValueError.__new__" = true
  k : PySem.W.keepIn K (.ref C) = true
  b : PySem.W.subIn K (.ref C) (.type "BaseException") = some true
  t : PySem.W.typeIn K (.ref C) = some (.type "type")
/-- raise x('..') -/
theorem ps_rz {X : Cx} {W : WX} {x m : Str} {C : Addr} {j : Nat} {p p2 pos pos2 : Pos} (c : XC X.K X.mg x C) (tk : Takes X W) (hc : X.calm = true := by rfl) (hg : Gl X x := by rfl) (hdb : (x == ("__debug__" : Str)) = false := by decide) :
    PS X (.Raise (some (.Call (.Name x p) [.Constant (.str m) j p2] [] pos)) none pos2) (fun _ σ H => W (.ref C) none σ H) :=
  ps_raise hc tk (pmk_own PySem.F.excBase_ValueError c.x c.g c.k (raises_own c.b c.t) hg hdb)
theorem if_t {c : Bool} {A B : Prop} (hc : c = true) (h : A) : if c = true then A else B := by
  rw [if_pos hc]
  exact h
theorem if_f {c : Bool} {A B : Prop} (hc : c = false) (h : B) : if c = true then A else B := by
  rw [hc, if_neg Bool.false_ne_true]
  exact h
theorem if_b {c : Bool} {A B : Prop} (h1 : c = true → A) (h2 : c = false → B) : if c = true then A else B := by
  cases c
  · rw [if_neg Bool.false_ne_true]; exact h2 rfl
  · rw [if_pos rfl]; exact h1 rfl
end SC
namespace SC
open PySem PyProof.Rows L2

theorem ifD {p : Prop} [Decidable p] {A B : Prop} (h1 : p → A) (h2 : ¬ p → B) : if decide p = true then A else B := by
  by_cases h : p
  · rw [if_pos (decide_eq_true h)]; exact h1 h
  · rw [if_neg (by rw [decide_eq_false h]; exact Bool.false_ne_true)]; exact h2 h
theorem ifN {p : Prop} [Decidable p] {A B : Prop} (h1 : ¬ p → A) (h2 : p → B) : if (!decide p) = true then A else B := by
  by_cases h : p
  · rw [decide_eq_true h, if_neg (by decide)]; exact h2 h
  · rw [decide_eq_false h, if_pos (by decide)]; exact h1 h
theorem ifNN {b : Bool} {A B : Prop} (h1 : b = false → A) (h2 : b = true → B) : if (!b) = true then A else B := by
  cases b
  · exact h1 rfl
  · exact h2 rfl
theorem ifI {a b : Int} {A B : Prop} (h1 : a = b → A) (h2 : a ≠ b → B) : if decide (V.int a = V.int b) = true then A else B := ifD (fun h => h1 (V.int.inj h)) fun h => h2 fun z => h (by rw [z])
theorem ifIN {a b : Int} {A B : Prop} (h1 : a ≠ b → A) (h2 : a = b → B) : if (!decide (V.int a = V.int b)) = true then A else B := ifN (fun h => h1 fun z => h (by rw [z])) fun h => h2 (V.int.inj h)

/-! ### where things stand -/
/-- addresses (and tokens) that the top has given -/
structure Ad where
  C : Addr
  eBoardError : Addr
  eNoBoard : Addr
  eNoCell : Addr
  eNoHand : Addr
  eCellTaken : Addr
  eCellEmpty : Addr
  tG : Tok
  tS : Tok
  aAROUND : Addr
/-- what the top has left, the same for every law -/
structure Top (K : PySem.W.Frag) (mg : Str → Option Value) (D : Ad) : Prop where
  cl : Cls K D.C
  nH : NoAttr K D.C "height"
  nW : NoAttr K D.C "width"
  nO : NoAttr K D.C "owners"
  g_GREATEST : mg "GREATEST" = some (.int 10 D.tG)
  len : mg "len" = none
  range : mg "range" = none
  isinstance : mg "isinstance" = none
  min : mg "min" = none
  sorted : mg "sorted" = none
  list : mg "list" = none
  set : mg "set" = none
  int : mg "int" = none
  bool : mg "bool" = none
  tuple : mg "tuple" = none
  str : mg "str" = none
  ValueError : mg "ValueError" = none
theorem pe_ty {X : Cx} {x : Str} {n : String} {pos : Pos} (hm : X.mg x = none) (hv : bootBuiltins x = some (.type n)) (hg : Gl X x := by rfl) (hn : x ≠ "__name__" := by decide) (hdb : (x == ("__debug__" : Str)) = false := by decide) : PE X (.Name x pos) (tC (.ty n)) :=
  pe_bltn hg hm hv rfl hn hdb

theorem ix_tupK {X : Cx} (K : PySem.W.Frag) (h : X.K = K := by rfl) : IxR X (rIxT K) := by subst h; exact ix_tup
theorem pe_fldK {X : Cx} (K : PySem.W.Frag) {e : Expr} {f : Str} {ta : TE} {pos : Pos} (he : PE X e ta) (hb : attributeBase e f X.env (eval e X.env) = eval e X.env) (h : X.K = K := by rfl) : PE X (.Attribute e f pos) (tFld K ta f) := by subst h; exact pe_fld he hb

/-- 0 <= b < c, c a name -/
def tBtw (n : Nat) (tb : TE) : TT := fun σ H Q => tb σ H fun y H2 => ∃ j k : Int, y = .int j ∧ σ[n]? = some (some (.int k)) ∧ Q (decide (0 ≤ j ∧ j < k)) H2
theorem pt_btw {X : Cx} {n : Nat} {b c : Expr} {tb : TE} {jj : Nat} {p0 pos : Pos} (hb : PE X b tb) (hc : PE X c (tVar n)) (hm : lastMarks [.LtE, .Lt] [b, c] = false := by with_unfolding_all rfl) :
    PT X (.Compare (.Constant (.int 0) jj p0) [.LtE, .Lt] [b, c] pos) (tBtw n tb) := by
  refine ⟨fun pins s σ H Q I h => ?_⟩
  refine isTrue_chain (thn ((pe_int (X := X)).run pins s σ H (fun x H1 => x = V.int 0 ∧ H1 = H) I ⟨rfl, rfl⟩) fun v s1 hh => ?_) hm
  obtain ⟨x, H1, I1, r1, e1, e2⟩ := hh
  subst e1
  subst e2
  refine test_link (thn (hb.run pins s1 σ _ _ I1 h) fun u s2 hh => ?_)
  obtain ⟨y, H2, I2, r2, j, k, ey, hk, q⟩ := hh
  subst ey
  refine thn (op_le pins s2 σ H2 (.int 0) (.int j) v u (fun z H3 => z = V.bl (decide (0 ≤ j)) ∧ H3 = H2) I2 r1 r2 ⟨_, _, rfl, rfl, rfl, rfl⟩) fun d s3 hh => ?_
  obtain ⟨z, H3, I3, r3, e3, e4⟩ := hh
  subst e3
  subst e4
  cases r3
  refine wpAny_truthy_bool ?_
  by_cases hj : 0 ≤ j
  · rw [decide_eq_true hj]
    refine ite_tt (test_last (thn (hc.run pins s3 σ _ (fun z H4 => z = V.int k ∧ H4 = H3) I3 ⟨_, hk, rfl, rfl⟩) fun w' s4 hh => ?_))
    obtain ⟨z', H4, I4, r4, e5, e6⟩ := hh
    subst e5
    subst e6
    refine thn (op_lt pins s4 σ _ (.int j) (.int k) u w' (fun z H3 => z = V.bl (decide (j < k)) ∧ H3 = H4) I4 r2 r4 ⟨_, _, rfl, rfl, rfl, rfl⟩) fun d' s5 hh => ?_
    obtain ⟨z5, H5, I5, r5, e7, e8⟩ := hh
    subst e7
    subst e8
    cases r5
    have e : decide (0 ≤ j ∧ j < k) = decide (j < k) := decide_eq_decide.mpr ⟨fun z => z.2, fun z => ⟨hj, z⟩⟩
    rw [e] at q
    exact wpAny_truthy_bool ⟨H5, I5, q⟩
  · rw [decide_eq_false hj]
    rw [decide_eq_false fun z => hj z.1] at q
    exact ite_ff ⟨_, I3, q⟩

/-! ### cells in the heap -/
/-- v is the pair c -/
def PairAt (H : Hp) (v : V) (c : Cell) : Prop := ∃ t, v = .ref t ∧ H t = some (.tup [.int c.1, .int c.2])
abbrev Cells (H : Hp) : List V → List Cell → Prop := Paired (PairAt H)
theorem PairAt.same {H H' : Hp} {v : V} {c : Cell} (h : PairAt H v c) (s : Same H H') : PairAt H' v c := by
  obtain ⟨t, e, ht⟩ := h
  exact ⟨t, e, s _ _ ht⟩
theorem Cells.same {H H' : Hp} {vs : List V} {cs : List Cell} (h : Cells H vs cs) (s : Same H H') : Cells H' vs cs := L2.Paired.mapP h fun _ _ p => p.same s
theorem PairAt.upd {H : Hp} {v : V} {c : Cell} {a : Addr} {o o' : HO} (h : PairAt H v c) (ha : H a = some o) (hn : ∀ xs, o ≠ .tup xs) : PairAt (upd H a o') v c := by
  obtain ⟨t, e, ht⟩ := h
  exact ⟨t, e, by rw [upd_ne (ne_of ht ha fun z => hn _ z.symm)]; exact ht⟩
theorem Cells.upd {H : Hp} {vs : List V} {cs : List Cell} {a : Addr} {o o' : HO} (h : Cells H vs cs) (ha : H a = some o) (hn : ∀ xs, o ≠ .tup xs) : Cells (upd H a o') vs cs := L2.Paired.mapP h fun _ _ p => p.upd ha hn
theorem same_upd {H : Hp} {a : Addr} {o : HO} (h : H a = none) : Same H (upd H a o) := fun b u e => by rw [upd_ne (ne_of_none e h)]; exact e
theorem paired_len {α β : Type} {F : α → β → Prop} {l : List α} {m : List β} (h : Paired F l m) : l.length = m.length := Paired.length h
theorem paired_get {α β : Type} {F : α → β → Prop} : ∀ {l : List α} {m : List β} {i : Nat} {x : α}, Paired F l m → l[i]? = some x → ∃ y, m[i]? = some y ∧ F x y
  | _, _, _, _, .nil, h => by simp at h
  | _, _, 0, _, .cons f _, h => by
    simp at h; subst h; exact ⟨_, rfl, f⟩
  | _, _, i + 1, x, .cons _ t, h => by
    simp at h
    obtain ⟨y, h1, h2⟩ := paired_get (i := i) t h
    exact ⟨y, by simpa using h1, h2⟩
theorem paired_get' {α β : Type} {F : α → β → Prop} : ∀ {l : List α} {m : List β} {i : Nat} {y : β}, Paired F l m → m[i]? = some y → ∃ x, l[i]? = some x ∧ F x y
  | _, _, _, _, .nil, h => by simp at h
  | _, _, 0, _, .cons f _, h => by
    simp at h; subst h; exact ⟨_, rfl, f⟩
  | _, _, i + 1, x, .cons _ t, h => by
    simp at h
    obtain ⟨y, h1, h2⟩ := paired_get' (i := i) t h
    exact ⟨y, by simpa using h1, h2⟩
theorem paired_app {α β : Type} {F : α → β → Prop} : ∀ {l l2 : List α} {m m2 : List β}, Paired F l m → Paired F l2 m2 → Paired F (l ++ l2) (m ++ m2)
  | _, _, _, _, .nil, g => g
  | _, _, _, _, .cons f t, g => .cons f (paired_app t g)
theorem take_more {α : Type} : ∀ {l : List α} {i : Nat} {x : α}, l[i]? = some x → l.take (i + 1) = l.take i ++ [x]
  | [], i, x, h => by simp at h
  | a :: l, 0, x, h => by
    have e : a = x := Option.some.inj h
    subst e
    rfl
  | a :: l, i + 1, x, h => by
    have ih := take_more (l := l) (i := i) (x := x) h
    show a :: l.take (i + 1) = a :: l.take i ++ [x]
    rw [ih]
    rfl

/-! ### dicts of cells -/
abbrev key (c : Cell) : List Key := [Sum.inl c.1, Sum.inl c.2]
def dk {α : Type} (g : α → V) (kvs : List (Cell × α)) : List (List Key × V) := kvs.map fun p => (key p.1, g p.2)
theorem key_inj {a b : Cell} (h : key a = key b) : a = b := by
  injection h with h1 h2
  injection h2 with h2 _
  injection h1 with h1
  injection h2 with h2
  exact Prod.ext h1 h2
theorem kv_key (c : Cell) : (key c).map kV = [V.int c.1, V.int c.2] := rfl
/-- what a dict holds -/
def lk {α : Type} (kvs : List (Cell × α)) (c : Cell) : Option α := (kvs.find? fun p => decide (p.1 = c)).map (·.2)
theorem lk_nil {α : Type} (c : Cell) : lk ([] : List (Cell × α)) c = none := rfl
theorem lk_cons {α : Type} (p : Cell × α) (r : List (Cell × α)) (c : Cell) : lk (p :: r) c = if p.1 = c then some p.2 else lk r c := by
  unfold lk
  rw [List.find?_cons]
  by_cases h : p.1 = c
  · simp [h]
  · simp [h]
theorem val_dk {α : Type} (g : α → V) : ∀ (kvs : List (Cell × α)) (c : Cell), valV (dk g kvs) (key c) = (lk kvs c).map g
  | [], _ => rfl
  | p :: r, c => by
    have ih := val_dk g r c
    unfold valV at ih ⊢
    unfold dk at ih ⊢
    rw [List.map_cons, List.find?_cons, lk_cons]
    by_cases h : p.1 = c
    · subst h; simp
    · have h2 : ¬ key p.1 = key c := fun z => h (key_inj z)
      simp only [h2, decide_false, if_neg h]
      exact ih
theorem lk_some {α : Type} : ∀ {kvs : List (Cell × α)} {c : Cell} {v : α}, lk kvs c = some v → (c, v) ∈ kvs
  | [], _, _, h => by simp [lk] at h
  | p :: r, c, v, h => by
    rw [lk_cons] at h
    by_cases e : p.1 = c
    · rw [if_pos e] at h
      cases h
      subst e
      exact List.mem_cons_self ..
    · rw [if_neg e] at h
      exact List.mem_cons_of_mem _ (lk_some h)
theorem lk_none {α : Type} : ∀ {kvs : List (Cell × α)} {c : Cell}, lk kvs c = none ↔ c ∉ kvs.map (·.1)
  | [], _ => by simp [lk]
  | p :: r, c => by
    rw [lk_cons, List.map_cons, List.mem_cons, not_or]
    by_cases e : p.1 = c
    · simp [e]
    · rw [if_neg e, lk_none (kvs := r)]
      exact ⟨fun h => ⟨fun z => e z.symm, h⟩, fun h => h.2⟩
theorem lk_mem {α : Type} : ∀ {kvs : List (Cell × α)} {c : Cell} {v : α}, (kvs.map (·.1)).Nodup → (c, v) ∈ kvs → lk kvs c = some v
  | [], _, _, _, h => by simp at h
  | p :: r, c, v, nd, h => by
    rw [List.map_cons, List.nodup_cons] at nd
    rw [lk_cons]
    rcases List.mem_cons.mp h with h | h
    · subst h; simp
    · have hc : c ∈ r.map (·.1) := List.mem_map.mpr ⟨_, h, rfl⟩
      rw [if_neg fun z => nd.1 (by rw [z]; exact hc)]
      exact lk_mem nd.2 h
/-- a store of a new key -/
theorem lk_snoc {α : Type} (kvs : List (Cell × α)) (a : Cell) (v : α) (c : Cell) (h : lk kvs a = none) : lk (kvs ++ [(a, v)]) c = if a = c then some v else lk kvs c := by
  induction kvs with
  | nil => rw [List.nil_append, lk_cons]
  | cons p r ih =>
    rw [lk_cons] at h
    by_cases e : p.1 = a
    · rw [if_pos e] at h; cases h
    · rw [if_neg e] at h
      rw [List.cons_append, lk_cons, lk_cons, ih h]
      by_cases e2 : p.1 = c
      · rw [if_pos e2, if_pos e2, if_neg fun z => e (e2.trans z.symm)]
      · rw [if_neg e2, if_neg e2]
theorem put_dk {α : Type} (g : α → V) (kvs : List (Cell × α)) (a : Cell) (v : α) (h : lk kvs a = none) : putK (dk g kvs) (key a) (g v) = dk g (kvs ++ [(a, v)]) := by
  rw [putK_new _ (by rw [val_dk, h]; rfl)]
  unfold dk
  rw [List.map_append]
  rfl
def drop {α : Type} (kvs : List (Cell × α)) (c : Cell) : List (Cell × α) := kvs.filter fun p => decide (p.1 ≠ c)
theorem drop_dk {α : Type} (g : α → V) (kvs : List (Cell × α)) (a : Cell) : dropK (dk g kvs) (key a) = dk g (drop kvs a) := by
  induction kvs with
  | nil => rfl
  | cons p r ih =>
    unfold dk dropK drop at ih ⊢
    rw [List.map_cons, List.filter_cons, List.filter_cons]
    by_cases e : p.1 = a
    · subst e
      simp only [ne_eq, not_true, decide_false, Bool.false_eq_true, if_false]
      exact ih
    · have e2 : ¬ key p.1 = key a := fun z => e (key_inj z)
      simp only [ne_eq, e, e2, not_false_eq_true, decide_true, if_true, List.map_cons]
      rw [ih]
theorem lk_drop {α : Type} (kvs : List (Cell × α)) (a c : Cell) : lk (drop kvs a) c = if a = c then none else lk kvs c := by
  induction kvs with
  | nil => simp [drop, lk]
  | cons p r ih =>
    unfold drop at ih ⊢
    rw [List.filter_cons]
    by_cases e : p.1 = a
    · subst e
      simp only [ne_eq, not_true, decide_false, Bool.false_eq_true, if_false]
      rw [ih, lk_cons]
      by_cases e2 : p.1 = c
      · rw [if_pos e2, if_pos e2]
      · rw [if_neg e2, if_neg e2, if_neg e2]
    · simp only [ne_eq, e, not_false_eq_true, decide_true, if_true]
      rw [lk_cons, lk_cons, ih]
      by_cases e2 : p.1 = c
      · rw [if_pos e2, if_pos e2, if_neg fun z => e (e2.trans z.symm)]
      · rw [if_neg e2, if_neg e2]
theorem drop_nodup {α : Type} {kvs : List (Cell × α)} {a : Cell} (h : (kvs.map (·.1)).Nodup) : ((drop kvs a).map (·.1)).Nodup := h.sublist (List.filter_sublist.map _)
theorem drop_sub {α : Type} {kvs : List (Cell × α)} {a : Cell} {p : Cell × α} (h : p ∈ drop kvs a) : p ∈ kvs := (List.mem_filter.mp h).1
theorem drop_len {α : Type} (kvs : List (Cell × α)) (a : Cell) : (drop kvs a).length ≤ kvs.length := List.length_filter_le _ _
theorem snoc_nodup {α : Type} {kvs : List (Cell × α)} {a : Cell} {v : α} (h : (kvs.map (·.1)).Nodup) (n : lk kvs a = none) : ((kvs ++ [(a, v)]).map (·.1)).Nodup := by
  rw [List.map_append]
  exact nd_snoc h (lk_none.mp n)

/-! ### a board -/
abbrev flds (R C : Int) (d : Addr) : List (Str × V) := [("height", .int R), ("width", .int C), ("owners", .ref d)]
theorem lk_here {k : Str} {v : V} {r : List (Str × V)} : List.lookup k ((k, v) :: r) = some v := by
  have e : (k == k) = true := beq_self_eq_true k
  simp only [List.lookup, e]
theorem lk_past {k g : Str} {v : V} {r : List (Str × V)} (h : (k == g) = false) : List.lookup k ((g, v) :: r) = List.lookup k r := by
  simp only [List.lookup, h]
theorem fl_H (R C : Int) (d : Addr) : (flds R C d).lookup ("height" : Str) = some (.int R) := lk_here
theorem fl_W (R C : Int) (d : Addr) : (flds R C d).lookup ("width" : Str) = some (.int C) := (lk_past (by decide +kernel)).trans lk_here
theorem fl_O (R C : Int) (d : Addr) : (flds R C d).lookup ("owners" : Str) = some (.ref d) := (lk_past (by decide +kernel)).trans ((lk_past (by decide +kernel)).trans lk_here)
theorem fl_no (R C : Int) (d : Addr) {m : Str} (h1 : (m == ("height" : Str)) = false) (h2 : (m == ("width" : Str)) = false) (h3 : (m == ("owners" : Str)) = false) : (flds R C d).lookup m = none :=
  (lk_past h1).trans ((lk_past h2).trans ((lk_past h3).trans rfl))
theorem fl_mk (R C : Int) (d : Addr) : putF "owners" (.ref d) (putF "width" (.int C) (putF "height" (.int R) [])) = flds R C d := by
  have h1 : ¬ (("height" : Str) = "width") := by decide +kernel
  have h2 : ¬ (("height" : Str) = "owners") := by decide +kernel
  have h3 : ¬ (("width" : Str) = "owners") := by decide +kernel
  show putF "owners" (.ref d) (if ("height" : Str) = "width" then _ else (("height" : Str), V.int R) :: putF "width" (.int C) []) = _
  rw [if_neg h1]
  show (if ("height" : Str) = "owners" then _ else (("height" : Str), V.int R) :: putF "owners" (.ref d) [(("width" : Str), V.int C)]) = _
  rw [if_neg h2]
  show _ :: (if ("width" : Str) = "owners" then _ else (("width" : Str), V.int C) :: putF "owners" (.ref d) []) = _
  rw [if_neg h3]
  rfl
/-- whose the cells are: the pairs of a board's dict -/
abbrev Own := List (Cell × Int)
def ow (kv : Own) (c : Cell) : Int := (lk kv c).getD 0
/-- a board's own state is in form -/
structure BOk (R C : Int) (kv : Own) : Prop where
  r1 : 1 ≤ R
  r2 : R ≤ 10
  c1 : 1 ≤ C
  c2 : C ≤ 10
  nd : (kv.map (·.1)).Nodup
  ok : ∀ p ∈ kv, B R C p.1 ∧ (p.2 = 1 ∨ p.2 = 2)
/-- a Board stands at b, its dict at d -/
structure BoardAt (D : Ad) (H : Hp) (b d : Addr) (R C : Int) (kv : Own) : Prop where
  ob : ∃ dx, H b = some (.ins D.C dx (flds R C d))
  dc : H d = some (.dT (dk V.int kv))
  ok : BOk R C kv
theorem BoardAt.same {D : Ad} {H H' : Hp} {b d : Addr} {R C : Int} {kv : Own} (h : BoardAt D H b d R C kv) (s : Same H H') : BoardAt D H' b d R C kv := by
  obtain ⟨⟨dx, h1⟩, h2, h3⟩ := h
  exact ⟨⟨dx, s _ _ h1⟩, s _ _ h2, h3⟩
theorem BoardAt.ne {D : Ad} {H : Hp} {b d : Addr} {R C : Int} {kv : Own} (h : BoardAt D H b d R C kv) : b ≠ d := by
  obtain ⟨⟨dx, h1⟩, h2, h3⟩ := h
  exact ne_of h1 h2 (by intro z; cases z)
/-- the cells of a board are few -/
theorem pigeon {α : Type} [DecidableEq α] : ∀ (l m : List α), l.Nodup → (∀ x ∈ l, x ∈ m) → l.length ≤ m.length
  | [], m, _, _ => Nat.zero_le _
  | a :: l, m, nd, h => by
    rw [List.nodup_cons] at nd
    have h1 := pigeon l (m.erase a) nd.2 fun x hx => (List.mem_erase_of_ne fun z => nd.1 (by rw [← z]; exact hx)).mpr (h x (List.mem_cons_of_mem _ hx))
    have h2 : (m.erase a).length + 1 = m.length := by
      have := List.length_erase_of_mem (h a (List.mem_cons_self ..))
      have := List.length_pos_of_mem (h a (List.mem_cons_self ..))
      omega
    rw [List.length_cons]
    omega
/-- all cells, row by row -/
def cellsN (R C : Nat) : List Cell := (List.range R).flatMap fun (r : Nat) => (List.range C).map fun (c : Nat) => (((r : Nat) : Int), ((c : Nat) : Int))
def cells (R C : Int) : List Cell := cellsN R.toNat C.toNat
theorem mem_cells {R C : Int} {c : Cell} : c ∈ cells R C ↔ B R C c := by
  unfold cells cellsN B
  simp only [List.mem_flatMap, List.mem_range, List.mem_map]
  constructor
  · rintro ⟨r, hr, k, hk, rfl⟩
    dsimp only
    omega
  · intro h
    exact ⟨c.1.toNat, by omega, c.2.toNat, by omega, Prod.ext (by dsimp only; omega) (by dsimp only; omega)⟩
theorem cells_len (R C : Int) : (cells R C).length = R.toNat * C.toNat := by
  unfold cells cellsN
  induction R.toNat with
  | zero => simp
  | succ n ih =>
    rw [List.range_succ, List.flatMap_append, List.length_append, ih]
    simp [Nat.succ_mul]
theorem cells_small {R C : Int} (hr : R ≤ 10) (hc : C ≤ 10) : (cells R C).length ≤ 100 := by
  rw [cells_len]
  have h1 : R.toNat ≤ 10 := by omega
  have h2 : C.toNat ≤ 10 := by omega
  exact Nat.mul_le_mul h1 h2
theorem few {α : Type} {R C : Int} {kvs : List (Cell × α)} (hr : R ≤ 10) (hc : C ≤ 10) (nd : (kvs.map (·.1)).Nodup) (h : ∀ p ∈ kvs, B R C p.1) : kvs.length ≤ 100 := by
  have h1 := pigeon (kvs.map (·.1)) (cells R C) nd fun x hx => by
    obtain ⟨p, hp, e⟩ := List.mem_map.mp hx
    rw [← e]
    exact mem_cells.mpr (h p hp)
  rw [List.length_map] at h1
  exact Nat.le_trans h1 (cells_small hr hc)
theorem fewc {R C : Int} {cs : List Cell} (hr : R ≤ 10) (hc : C ≤ 10) (nd : cs.Nodup) (h : ∀ p ∈ cs, B R C p) : cs.length ≤ 100 :=
  Nat.le_trans (pigeon cs (cells R C) nd fun x hx => mem_cells.mpr (h x hx)) (cells_small hr hc)
theorem BOk.few {R C : Int} {kv : Own} (h : BOk R C kv) : kv.length ≤ 100 := SC.few h.r2 h.c2 h.nd fun p hp => (h.ok p hp).1
theorem BOk.ow_hand {R C : Int} {kv : Own} (h : BOk R C kv) (c : Cell) : (ow kv c = 0 ∧ lk kv c = none) ∨ ((ow kv c = 1 ∨ ow kv c = 2) ∧ lk kv c = some (ow kv c)) := by
  unfold ow
  cases e : lk kv c with
  | none => exact .inl ⟨rfl, rfl⟩
  | some v => exact .inr ⟨(h.ok _ (lk_some e)).2, rfl⟩
theorem BOk.put {R C : Int} {kv : Own} (h : BOk R C kv) {c : Cell} {v : Int} (hb : B R C c) (hv : v = 1 ∨ v = 2) (n : lk kv c = none) : BOk R C (kv ++ [(c, v)]) := by
  refine ⟨h.r1, h.r2, h.c1, h.c2, snoc_nodup h.nd n, fun p hp => ?_⟩
  rcases List.mem_append.mp hp with hp | hp
  · exact h.ok p hp
  · rw [List.mem_singleton.mp hp]
    exact ⟨hb, hv⟩
theorem BOk.lift {R C : Int} {kv : Own} (h : BOk R C kv) (c : Cell) : BOk R C (drop kv c) :=
  ⟨h.r1, h.r2, h.c1, h.c2, drop_nodup h.nd, fun p hp => h.ok p (drop_sub hp)⟩
theorem BOk.nil {R C : Int} (h1 : 1 ≤ R) (h2 : R ≤ 10) (h3 : 1 ≤ C) (h4 : C ≤ 10) : BOk R C [] := ⟨h1, h2, h3, h4, List.nodup_nil, fun _ h => by simp at h⟩
instance decB (R C : Int) (c : Cell) : Decidable (B R C c) := by unfold B; infer_instance
end SC
namespace SC
open PySem PyProof.Rows L2

/-! ### the mathematics of cells -/
/-- the steps to the neighbours, in the told order -/
def steps : List Cell := [(-1, 0), (-1, 1), (0, -1), (0, 1), (1, -1), (1, 0)]
def around (c : Cell) : List Cell := steps.map fun s => (c.1 + s.1, c.2 + s.2)
def near (R C : Int) (c : Cell) : List Cell := (around c).filter fun z => decide (B R C z)
/-- the empty cells, row by row -/
def empt (R C : Int) (kv : Own) : List Cell := (cells R C).filter fun c => (lk kv c).isNone
theorem mem_around {a b : Cell} : b ∈ around a ↔ Adj a b := by
  obtain ⟨i, j⟩ := a
  obtain ⟨k, l⟩ := b
  unfold around steps Adj
  simp only [List.map_cons, List.map_nil, List.mem_cons, List.not_mem_nil, or_false, Prod.mk.injEq]
  omega
theorem mem_near {R C : Int} {a b : Cell} : b ∈ near R C a ↔ Adj a b ∧ B R C b := by
  unfold near
  rw [List.mem_filter, mem_around, decide_eq_true_eq]
theorem mem_empt {R C : Int} {kv : Own} {c : Cell} : c ∈ empt R C kv ↔ B R C c ∧ lk kv c = none := by
  unfold empt
  rw [List.mem_filter, mem_cells]
  simp
theorem near_len (R C : Int) (c : Cell) : (near R C c).length ≤ 6 := List.length_filter_le _ _
theorem empt_len {R C : Int} (h1 : R ≤ 10) (h2 : C ≤ 10) (kv : Own) : (empt R C kv).length ≤ 100 := Nat.le_trans (List.length_filter_le _ _) (cells_small h1 h2)
theorem at0 {x y : V} : atI [x, y] 0 = some x := rfl
theorem at1 {x y : V} : atI [x, y] 1 = some y := rfl

theorem filter_take {α : Type} {l : List α} {i : Nat} {x : α} (p : α → Bool) (h : l[i]? = some x) : (l.take (i + 1)).filter p = (l.take i).filter p ++ (if p x = true then [x] else []) := by
  rw [take_more h, List.filter_append]
  congr 1
  by_cases e : p x = true
  · rw [if_pos e, List.filter_cons_of_pos e]; rfl
  · rw [if_neg e, List.filter_cons_of_neg e]; rfl
theorem map_take {α β : Type} {l : List α} {i : Nat} {x : α} (f : α → β) (h : l[i]? = some x) : (l.map f).take (i + 1) = (l.map f).take i ++ [f x] := take_more (by rw [List.getElem?_map, h]; rfl)
theorem small100 {n : Nat} (h : n ≤ 1000) : n < sizeLine := small1000 h
theorem cells_snoc {H : Hp} {vs : List V} {cs : List Cell} {L : Addr} {t : Addr} {c : Cell} {o : HO} (h : Cells H vs cs) (hL : H L = some o) (ho : ∀ xs, o ≠ .tup xs) (ht : H t = some (.tup [.int c.1, .int c.2])) (ws : List V) : Cells (upd H L (.lst ws)) (vs ++ [.ref t]) (cs ++ [c]) :=
  paired_app (h.upd hL ho) (.cons ⟨t, rfl, by rw [upd_ne (ne_of ht hL fun z => ho _ z.symm)]; exact ht⟩ .nil)
theorem lst_ntup (vs : List V) : ∀ xs, HO.lst vs ≠ .tup xs := fun _ z => nomatch z
theorem dT_ntup (vs : List (List Key × V)) : ∀ xs, HO.dT vs ≠ .tup xs := fun _ z => nomatch z
/-- a list that was new ahead is changed: what stood stands -/
theorem same_set {H H1 : Hp} {L : Addr} {o : HO} (s : Same H H1) (n : H L = none) : Same H (upd H1 L o) := fun b u e => by rw [upd_ne (ne_of_none e n)]; exact s b u e

/-! ### promises -/
/-- a new list of these cells is handed back, nothing that stood is changed -/
def NewCells (H : Hp) (cs : List Cell) (Q : VK) : Prop := ∀ l vs H', Same H H' → H l = none → H' l = some (.lst vs) → Cells H' vs cs → Q (.ref l) H'
/-- some value, nothing that stood is changed -/
def Keep (H : Hp) (v : V) (Q : VK) : Prop := ∀ H', Same H H' → Q v H'
def Hand (h : Int) : Prop := h = 1 ∨ h = 2
instance (h : Int) : Decidable (Hand h) := by unfold Hand; infer_instance
def Size (r c : Int) : Prop := 1 ≤ r ∧ r ≤ 10 ∧ 1 ≤ c ∧ c ≤ 10
abbrev setD (H : Hp) (d : Addr) (kv : Own) : Hp := upd H d (.dT (dk V.int kv))
theorem BoardAt.set {D : Ad} {H : Hp} {b d : Addr} {R C : Int} {kv kv' : Own} (h : BoardAt D H b d R C kv) (k : BOk R C kv') : BoardAt D (setD H d kv') b d R C kv' := by
  obtain ⟨⟨dx, h1⟩, h2, h3⟩ := id h
  exact ⟨⟨dx, by unfold setD; rw [upd_ne h.ne]; exact h1⟩, upd_same, k⟩
def sp_see_hand (_ : PySem.W.Frag) (D : Ad) : Sp := fun vs H Q E => ∃ h : Int, vs = [.int h] ∧ (Hand h → Q .non H) ∧ (¬ Hand h → E (.ref D.eNoHand) none H)
def sp_B_init (_ : PySem.W.Frag) (D : Ad) : Sp := fun vs H Q E => ∃ (p dx : Addr) (r c : Int), vs = [.ref p, .int r, .int c] ∧ H p = some (.ins D.C dx []) ∧ (¬ Size r c → E (.ref D.eNoBoard) none H) ∧
  (Size r c → ∀ d H', H d = none → BoardAt D H' p d r c [] → (∀ b o, H b = some o → b ≠ p → H' b = some o) → Q .non H')
def sp_B_rows (_ : PySem.W.Frag) (D : Ad) : Sp := fun vs H Q _ => ∃ b d R C kv, vs = [.ref b] ∧ BoardAt D H b d R C kv ∧ Q (.int R) H
def sp_B_columns (_ : PySem.W.Frag) (D : Ad) : Sp := fun vs H Q _ => ∃ b d R C kv, vs = [.ref b] ∧ BoardAt D H b d R C kv ∧ Q (.int C) H
def sp_B_has (_ : PySem.W.Frag) (D : Ad) : Sp := fun vs H Q _ => ∃ b d R C kv v c, vs = [.ref b, v] ∧ BoardAt D H b d R C kv ∧ PairAt H v c ∧ Q (.bl (decide (B R C c))) H
def sp_B_see_cell (_ : PySem.W.Frag) (D : Ad) : Sp := fun vs H Q E => ∃ b d R C kv v c, vs = [.ref b, v] ∧ BoardAt D H b d R C kv ∧ PairAt H v c ∧ (B R C c → Q .non H) ∧ (¬ B R C c → E (.ref D.eNoCell) none H)
def sp_B_put (_ : PySem.W.Frag) (D : Ad) : Sp := fun vs H Q E => ∃ b d R C kv v c h, vs = [.ref b, v, .int h] ∧ BoardAt D H b d R C kv ∧ PairAt H v c ∧ (¬ B R C c → E (.ref D.eNoCell) none H) ∧ (B R C c → ¬ Hand h → E (.ref D.eNoHand) none H) ∧
  (B R C c → Hand h → lk kv c ≠ none → E (.ref D.eCellTaken) none H) ∧ (B R C c → Hand h → lk kv c = none → Q .non (setD H d (kv ++ [(c, h)])))
def sp_B_lift (_ : PySem.W.Frag) (D : Ad) : Sp := fun vs H Q E => ∃ b d R C kv v c, vs = [.ref b, v] ∧ BoardAt D H b d R C kv ∧ PairAt H v c ∧ (¬ B R C c → E (.ref D.eNoCell) none H) ∧
  (B R C c → lk kv c = none → E (.ref D.eCellEmpty) none H) ∧ (B R C c → lk kv c ≠ none → Q .non (setD H d (drop kv c)))
def sp_B_owner (_ : PySem.W.Frag) (D : Ad) : Sp := fun vs H Q E => ∃ b d R C kv v c, vs = [.ref b, v] ∧ BoardAt D H b d R C kv ∧ PairAt H v c ∧ (¬ B R C c → E (.ref D.eNoCell) none H) ∧ (B R C c → Q (.int (ow kv c)) H)
def sp_B_near (_ : PySem.W.Frag) (D : Ad) : Sp := fun vs H Q E => ∃ b d R C kv v c, vs = [.ref b, v] ∧ BoardAt D H b d R C kv ∧ PairAt H v c ∧ (¬ B R C c → E (.ref D.eNoCell) none H) ∧ (B R C c → NewCells H (near R C c) Q)
def sp_B_empties (_ : PySem.W.Frag) (D : Ad) : Sp := fun vs H Q _ => ∃ b d R C kv, vs = [.ref b] ∧ BoardAt D H b d R C kv ∧ NewCells H (empt R C kv) Q
def sp_cells_of (_ : PySem.W.Frag) (D : Ad) : Sp := fun vs H Q _ => ∃ b d R C kv, vs = [.ref b] ∧ BoardAt D H b d R C kv ∧ NewCells H (cells R C) Q
/-- AROUND as the top has made it -/
structure AroundOk (K : PySem.W.Frag) (mg : Str → Option Value) (D : Ad) : Prop where
  g : mg "AROUND" = some (.ref D.aAROUND)
  t : ∃ ts : List Addr, (∀ H, SqT K H D.aAROUND (ts.map V.ref)) ∧ Paired (fun t (s : Cell) => ∀ H, SqT K H t [.int s.1, .int s.2]) ts steps
theorem sqT_of {K : PySem.W.Frag} {H : Hp} {a : Addr} {dd : Option Addr} {its : Array Value} {n : Nat} {sl : Array (Option Value)} {xs : List V} (h : K.lookup a = some ⟨.type "tuple", dd, .seq its n, sl⟩) (z : its.size ≤ sizeLine) (v : Vals xs its.toList) : SqT K H a xs :=
  .inr ⟨_, its, n, h, rfl, rfl, z, v⟩

/-! ### promises of the laws' own helpers -/
def item (ns : List Int) (k : Int) : Int := ns.getD k.toNat 0
def sp_law_cell_at (K : PySem.W.Frag) (_ : Ad) : Sp := fun vs H Q _ => ∃ (a : Addr) (ns : List Int) (k : Int), vs = [.ref a, .int k] ∧ SqL K H a (ns.map V.int) ∧ 0 ≤ k ∧ Q (.int (item ns k)) H
def sp_law_whole (_ : PySem.W.Frag) (_ : Ad) : Sp := fun vs H Q _ => ∃ i : Int, vs = [.int i] ∧ Q (.bl true) H
def sp_law_near (_ : PySem.W.Frag) (_ : Ad) : Sp := fun vs H Q _ => ∃ (R C : Int) (v : V) (c : Cell), vs = [.int R, .int C, v] ∧ PairAt H v c ∧ NewCells H (near R C c) Q
def sp_law_is_cells (_ : PySem.W.Frag) (_ : Ad) : Sp := fun vs H Q _ => ∃ (l : Addr) (us : List V) (cs : List Cell) (R C : Int), vs = [.ref l, .int R, .int C] ∧ H l = some (.lst us) ∧ Cells H us cs ∧ (∀ c ∈ cs, B R C c) ∧ Q (.bl true) H
def sp_law (K : PySem.W.Frag) (_ : Ad) : Sp := fun vs H Q _ => ∃ (a : Addr) (ns : List Int), vs = [.ref a] ∧ SqL K H a (ns.map V.int) ∧ ns.length ≤ 63 ∧ ∀ H', Q (.bl true) H'
/-- isinstance(e, c), e the exception that the suite holds, of whatever class -/
theorem call_isX {X : Cx} {a : Addr} {cls : Value} {d : Option Addr} {oe : Obj} {pn : List (Addr × Obj)} (K : PySem.W.Frag) (hz : Zc cls d oe) (hf : ∃ vs, oe.data = .fields vs) (hK : X.K = K := by rfl) :
    CallR (X.suite a ((a, oe) :: pn)) (.builtin "isinstance") (fun xs H Q => ∃ D, cls = .ref D ∧ d = none ∧ ExcC K D ∧ rIsE K D a xs H Q) := by
  subst hK
  intro pins s σ H xs us Q I r h
  obtain ⟨D, rfl, rfl, hc, q⟩ := h
  exact call_isE hc hz hf pins s σ H xs us Q I r q
section
variable {K : PySem.W.Frag} {C E : Addr}
theorem kit_yes : PySem.W.kitOne K (.ref E) (.ref E) = some true := by
  unfold PySem.W.kitOne
  rw [if_pos (beq_self_eq_true _)]
theorem cls_cond (o : PySem.W.isClsIn K C = true) (t : PySem.W.typeIn K (.ref C) = some (.type "type")) : ((PySem.W.clsIn K C).isSome && PySem.W.typeIn K (.ref C) == some (.type "type")) = true := by
  rw [show (PySem.W.clsIn K C).isSome = true from o, t]
  simp
theorem kit_no (o : PySem.W.isClsIn K C = true) (t : PySem.W.typeIn K (.ref C) = some (.type "type")) (u : PySem.W.subIn K (.ref E) (.ref C) = some false) (self : PySem.W.subIn K (.ref E) (.ref E) = some true) : PySem.W.kitOne K (.ref E) (.ref C) = some false := by
  have ne : E ≠ C := fun z => by rw [z] at u self; rw [self] at u; cases u
  unfold PySem.W.kitOne
  rw [if_neg (by simp [ne])]
  show (if _ then PySem.W.subIn K (.ref E) (.ref C) else none) = _
  rw [if_pos (cls_cond o t)]
  exact u
theorem kit_ve (u : PySem.W.subIn K (.ref E) (.type "ValueError") = some true) : PySem.W.kitOne K (.ref E) (.type "ValueError") = some true := by
  unfold PySem.W.kitOne
  rw [if_neg (by simp)]
  show (if PySem.W.kitMeta "ValueError" = true then PySem.W.subIn K (.ref E) (.type "ValueError") else none) = _
  rw [if_pos (by decide +kernel)]
  exact u
theorem exm_yes (b : PySem.W.subIn K (.ref C) (.type "BaseException") = some true) (o : PySem.W.isClsIn K C = true) (t : PySem.W.typeIn K (.ref C) = some (.type "type")) (u : PySem.W.subIn K (.ref E) (.ref C) = some true) : PySem.W.exmOne K (.ref E) (.ref C) = some true := by
  unfold PySem.W.exmOne
  rw [if_pos (by rw [b]; simp)]
  show (if _ then PySem.W.subIn K (.ref E) (.ref C) else none) = _
  rw [if_pos (cls_cond o t)]
  exact u
end
/-- d.pop(k), the keys tuples, k there -/
def rPop1T : V → List V → Hp → VK → Prop := fun x xs H Q => ∃ (a : Addr) (kvs : List (List L2.Key × V)) (k : List L2.Key) (b : Addr) (v : V), x = .ref a ∧ xs = [.ref b] ∧ H a = some (.dT kvs) ∧ H b = some (.tup (k.map kV)) ∧ valV kvs k = some v ∧ Q v (upd H a (.dT (dropK kvs k)))
theorem mt_pop1T {X : Cx} (hu : X.A.units + 1 < cLine) : MtR X "dict.pop" rPop1T := by
  intro pins s σ H x xs v us Q I rx rxs h
  obtain ⟨a, kvs, k, b, v0, rfl, rfl, ha, hb, hv, q⟩ := h
  cases rx
  obtain ⟨u1, rfl, r1⟩ := vals1 rxs
  cases r1
  obtain ⟨z, hd, xs', rel, dd⟩ := dt_of I.hok ha
  have hz : xs'.length ≤ sizeLine := by rw [← Paired.length rel]; exact z
  obtain ⟨p, hp, rp⟩ : ∃ p, atKey xs' k = some p ∧ RelV v0 p.2 := by
    have r := rel.val k
    rw [hv] at r
    cases e : atKey xs' k with
    | none =>
      rw [e] at r
      exact (show False from r).elim
    | some p =>
      rw [e] at r
      exact ⟨p, rfl, r⟩
  refine call_pop_heap (more := []) (.inl rfl) (PySem.F.args_dict_pop_2 _ _) (knd := tupleKind (mixKind X.prog X.w)) (tupleKind_room_in1 hu) (key_of I.hok hb) hd dd hp (fun h' dd' hs => ?_) hz
  obtain ⟨o, es, ep, hq, h2, h3, h4, _, h5⟩ := dd'
  have I2 : Inv X pins σ (upd H a (.dT (dropK kvs k))) { s with heap := h', toks := s.toks + (tupleKind (mixKind X.prog X.w)).draws k } :=
    d_write I (by rw [ha]; exact True.intro) hs ⟨o, hq⟩ ⟨Nat.le_trans (dropK_le kvs k) z, hd, _, (DX.KT_drop k rel).keeps (fun c ys ec => (by rw [upd_ne (ne_of ec ha (fun z => nomatch z))]; exact ec)), o, es, ep, hq, h2, h3, h4, h5⟩
  exact ⟨v0, _, I2, rp, q⟩
end SC
namespace SC
open PySem PyProof.Rows L2

/-! ### cells as data: ==, in -/
def cdat (c : Cell) : PyData := .tuple [.int c.1, .int c.2]
def clist (cs : List Cell) : PyData := .list (cs.map cdat)
theorem dp_pair {K : PySem.W.Frag} {H : Hp} {v : V} {c : Cell} (h : PairAt H v c) : Dp K H v (cdat c) := by
  obtain ⟨t, rfl, ht⟩ := h
  exact .tup (SqT.of ht) (.cons (.int _) (.cons (.int _) .nil))
theorem dp_all {K : PySem.W.Frag} {H : Hp} : ∀ {vs : List V} {cs : List Cell}, Cells H vs cs → DpAll K H vs (cs.map cdat)
  | _, _, .nil => .nil
  | _, _, .cons h t => .cons (dp_pair h) (dp_all t)
theorem dp_cells {K : PySem.W.Frag} {H : Hp} {l : Addr} {vs : List V} {cs : List Cell} (hl : SqL K H l vs) (h : Cells H vs cs) : Dp K H (.ref l) (clist cs) := .lst hl (dp_all h)
theorem can_cd (c : Cell) : (cdat c).canLay0 = true := by simp [cdat, PyData.canLay0, PyData.canLayAll0]
theorem can_cl : ∀ cs : List Cell, PyData.canLayAll0 (cs.map cdat) = true
  | [] => by simp [PyData.canLayAll0]
  | c :: cs => by rw [List.map_cons, PyData.canLayAll0, can_cd, can_cl cs]; rfl
theorem dep_cd (c : Cell) : (cdat c).depth = 1 := by simp [cdat, PyData.depth, PyData.depthAll]
theorem dep_cl : ∀ cs : List Cell, PyData.depthAll (cs.map cdat) ≤ 1
  | [] => by simp [PyData.depthAll]
  | c :: cs => by
    rw [List.map_cons, PyData.depthAll, dep_cd]
    have := dep_cl cs
    omega
theorem sh_cd (c : Cell) : SeqAt.shaped (cdat c) = true := by
  unfold SeqAt.shaped
  rw [can_cd, dep_cd]
  rfl
theorem sh_cl (cs : List Cell) : SeqAt.shaped (clist cs) = true := by
  unfold SeqAt.shaped clist
  rw [PyData.canLay0, can_cl, PyData.depth]
  have := dep_cl cs
  rw [decide_eq_true (by omega : PyData.depthAll (cs.map cdat) + 1 ≤ 64)]
  rfl
theorem eqv_cd (a b : Cell) : PyData.eqv (cdat a) (cdat b) = decide (a = b) := by
  obtain ⟨i, j⟩ := a
  obtain ⟨k, l⟩ := b
  simp only [cdat, PyData.eqv, PyData.eqvAll, Bool.and_true, Prod.mk.injEq]
  rw [Bool.eq_iff_iff]
  simp
theorem eqv_all : ∀ xs ys : List Cell, PyData.eqvAll (xs.map cdat) (ys.map cdat) = decide (xs = ys)
  | [], [] => by simp [PyData.eqvAll]
  | [], y :: ys => by simp [PyData.eqvAll]
  | x :: xs, [] => by simp [PyData.eqvAll]
  | x :: xs, y :: ys => by
    rw [List.map_cons, List.map_cons, PyData.eqvAll, eqv_cd, eqv_all xs ys]
    rw [Bool.eq_iff_iff]
    simp
theorem eqv_cl (xs ys : List Cell) : PyData.eqv (clist xs) (clist ys) = decide (xs = ys) := by
  unfold clist
  rw [PyData.eqv, eqv_all]
theorem any_cl (xs : List Cell) (c : Cell) : ((xs.map cdat).any fun z => PyData.eqv z (cdat c)) = decide (c ∈ xs) := by
  rw [List.any_map]
  induction xs with
  | nil => simp
  | cons x xs ih =>
    rw [List.any_cons, ih, Function.comp, eqv_cd]
    rw [Bool.eq_iff_iff]
    simp only [Bool.or_eq_true, decide_eq_true_eq, List.mem_cons]
    constructor
    · rintro (h | h)
      · exact .inl h.symm
      · exact .inr h
    · rintro (h | h)
      · exact .inl h.symm
      · exact .inr h
/-! ### lists of bools -/
def blist (bs : List Bool) : PyData := .list (bs.map .bool)
theorem dp_bools {K : PySem.W.Frag} {H : Hp} {l : Addr} {bs : List Bool} (hl : SqL K H l (bs.map V.bl)) : Dp K H (.ref l) (blist bs) := by
  refine .lst hl ?_
  clear hl
  induction bs with
  | nil => exact .nil
  | cons b bs ih => exact .cons (.bl b) ih
theorem sh_bl (bs : List Bool) : SeqAt.shaped (blist bs) = true := by
  unfold SeqAt.shaped blist
  have h1 : PyData.canLayAll0 (bs.map .bool) = true := by
    induction bs with
    | nil => simp [PyData.canLayAll0]
    | cons b bs ih => rw [List.map_cons, PyData.canLayAll0, ih]; rfl
  have h2 : PyData.depthAll (bs.map .bool) = 0 := by
    clear h1
    induction bs with
    | nil => simp [PyData.depthAll]
    | cons b bs ih => rw [List.map_cons, PyData.depthAll, ih]; rfl
  rw [PyData.canLay0, h1, PyData.depth, h2]
  rfl
theorem eqv_bl (xs ys : List Bool) : PyData.eqv (blist xs) (blist ys) = decide (xs = ys) := by
  unfold blist
  rw [PyData.eqv]
  induction xs generalizing ys with
  | nil => cases ys <;> simp [PyData.eqvAll]
  | cons x xs ih =>
    cases ys with
    | nil => simp [PyData.eqvAll]
    | cons y ys =>
      rw [List.map_cons, List.map_cons, PyData.eqvAll, ih, PyData.eqv]
      rw [Bool.eq_iff_iff]
      simp
/-! ### lists of ints -/
def ilist (ns : List Int) : PyData := .list (ns.map .int)
theorem dp_ints {K : PySem.W.Frag} {H : Hp} {l : Addr} {ns : List Int} (hl : SqL K H l (ns.map V.int)) : Dp K H (.ref l) (ilist ns) := by
  refine .lst hl ?_
  clear hl
  induction ns with
  | nil => exact .nil
  | cons b bs ih => exact .cons (.int b) ih
theorem sh_il (bs : List Int) : SeqAt.shaped (ilist bs) = true := by
  unfold SeqAt.shaped ilist
  have h1 : PyData.canLayAll0 (bs.map .int) = true := by
    induction bs with
    | nil => simp [PyData.canLayAll0]
    | cons b bs ih => rw [List.map_cons, PyData.canLayAll0, ih]; rfl
  have h2 : PyData.depthAll (bs.map .int) = 0 := by
    clear h1
    induction bs with
    | nil => simp [PyData.depthAll]
    | cons b bs ih => rw [List.map_cons, PyData.depthAll, ih]; rfl
  rw [PyData.canLay0, h1, PyData.depth, h2]
  rfl
theorem eqv_il (xs ys : List Int) : PyData.eqv (ilist xs) (ilist ys) = decide (xs = ys) := by
  unfold ilist
  rw [PyData.eqv]
  induction xs generalizing ys with
  | nil => cases ys <;> simp [PyData.eqvAll]
  | cons x xs ih =>
    cases ys with
    | nil => simp [PyData.eqvAll]
    | cons y ys =>
      rw [List.map_cons, List.map_cons, PyData.eqvAll, ih, PyData.eqv]
      rw [Bool.eq_iff_iff]
      simp
def sp_law_near_right (_ : PySem.W.Frag) (D : Ad) : Sp := fun vs H Q _ => ∃ b d R C kv v c, vs = [.ref b, .int R, .int C, v] ∧ BoardAt D H b d R C kv ∧ PairAt H v c ∧ B R C c ∧ Keep H (.bl true) Q
def sp_law_no_cell (_ : PySem.W.Frag) (D : Ad) : Sp := fun vs H Q _ => ∃ b d R C kv v c, vs = [.ref b, v] ∧ BoardAt D H b d R C kv ∧ PairAt H v c ∧ ¬ B R C c ∧ Keep H (.bl true) Q
theorem cells_at {H : Hp} {vs : List V} {cs : List Cell} {z : Int} (h : Cells H vs cs) (h0 : 0 ≤ z) (h1 : z < cs.length) : ∃ v c, cs[z.toNat]? = some c ∧ atI vs z = some v ∧ PairAt H v c := by
  have hl : z.toNat < cs.length := by omega
  obtain ⟨v, hv, p⟩ := paired_get' h (List.getElem?_eq_getElem hl)
  exact ⟨v, _, List.getElem?_eq_getElem hl, at_of (j := z.toNat) (by omega) hv, p⟩
/-- a new instance of Board -/
theorem made {H H1 : Hp} {x dx C : Addr} (nx : H x = Option.none) (nd : H dx = Option.none) (k : ∀ b o, (upd (upd H dx (.own x)) x (.ins C dx [])) b = some o → b ≠ x → H1 b = some o) : Same H H1 := Same.made nx nd k
theorem newO {H : Hp} {p : Addr} {o : HO} (n : H p = none) : Same H (upd H p o) ∧ upd H p o p = some o := ⟨same_upd n, upd_same⟩
theorem ne_new {H H1 : Hp} {a L : Addr} {o : HO} (h : H a = some o) (s : Same H H1) (n : H1 L = none) : a ≠ L := ne_of_none (s _ _ h) n
end SC
namespace SC
open PySem PyProof.Rows L2

/-! ### chains, in plain Lean -/
/-- on the first side of hand h -/
def Fst (h : Int) (c : Cell) : Prop := if h = 1 then c.2 = 0 else c.1 = 0
/-- on the last side of hand h -/
def Lst (R C h : Int) (c : Cell) : Prop := if h = 1 then c.2 = C - 1 else c.1 = R - 1
instance (h : Int) (c : Cell) : Decidable (Fst h c) := by unfold Fst; infer_instance
instance (R C h : Int) (c : Cell) : Decidable (Lst R C h c) := by unfold Lst; infer_instance
/-- hand h has joined through S -/
def Joined (R C h : Int) (S : Cell → Prop) : Prop := ∃ a d, Fst h a ∧ Lst R C h d ∧ Linked (In R C S) a d
theorem joined1 {R C : Int} {S : Cell → Prop} : Joined R C 1 S ↔ LR R C S := Iff.rfl
theorem joined2 {R C : Int} {S : Cell → Prop} : Joined R C 2 S ↔ TB R C S := Iff.rfl
theorem Joined.mono {R C h : Int} {S U : Cell → Prop} (j : Joined R C h S) (k : ∀ c, B R C c → S c → U c) : Joined R C h U := by
  obtain ⟨a, d, h1, h2, l⟩ := j
  exact ⟨a, d, h1, h2, l.mono fun c z => ⟨z.1, k c z.1 z.2⟩⟩
theorem joined_congr {R C h : Int} {S U : Cell → Prop} (k : ∀ c, B R C c → (S c ↔ U c)) : Joined R C h S ↔ Joined R C h U :=
  ⟨fun j => j.mono fun c b s => (k c b).mp s, fun j => j.mono fun c b s => (k c b).mpr s⟩
/-- just one of the hands joins -/
theorem hexJ {R C h : Int} (hR : 1 ≤ R) (hC : 1 ≤ C) (hh : Hand h) (S : Cell → Prop) : (Joined R C h S ∨ Joined R C (3 - h) fun c => ¬ S c) ∧ ¬ (Joined R C h S ∧ Joined R C (3 - h) fun c => ¬ S c) := by
  rcases hh with rfl | rfl
  · exact hex hR hC S
  · have e := hex hR hC fun c => ¬ S c
    have q : TB R C S ↔ TB R C fun c => ¬ ¬ S c := joined_congr (h := 2) fun c _ => ⟨fun s n => n s, fun s => Classical.not_not.mp s⟩
    refine ⟨e.1.elim (fun z => .inr z) fun z => .inl (q.mpr z), fun z => e.2 ⟨z.2, q.mp z.1⟩⟩
def AdjL (cs : List Cell) : Prop := ∀ i a b, cs[i]? = some a → cs[i + 1]? = some b → Adj a b
/-- cs is a chain of hand h through S -/
structure IsChain (R C h : Int) (S : Cell → Prop) (cs : List Cell) : Prop where
  nd : cs.Nodup
  ok : ∀ c ∈ cs, B R C c ∧ S c
  adj : AdjL cs
  fst : ∃ a, cs[0]? = some a ∧ Fst h a
  lst : ∃ a, cs[cs.length - 1]? = some a ∧ Lst R C h a
theorem IsChain.mono {R C h : Int} {S U : Cell → Prop} {cs : List Cell} (j : IsChain R C h S cs) (k : ∀ c ∈ cs, S c → U c) : IsChain R C h U cs :=
  ⟨j.nd, fun c m => ⟨(j.ok c m).1, k c m (j.ok c m).2⟩, j.adj, j.fst, j.lst⟩
theorem IsChain.mono' {R C h : Int} {S U : Cell → Prop} {cs : List Cell} (j : IsChain R C h S cs) (k : ∀ c, B R C c → (S c ↔ U c)) : IsChain R C h U cs :=
  ⟨j.nd, fun c m => ⟨(j.ok c m).1, (k c (j.ok c m).1).mp (j.ok c m).2⟩, j.adj, j.fst, j.lst⟩
theorem linked_list {P : Cell → Prop} {cs : List Cell} (ok : ∀ c ∈ cs, P c) (adj : AdjL cs) {a : Cell} (h0 : cs[0]? = some a) : ∀ (i : Nat) (b : Cell), cs[i]? = some b → Linked P a b := by
  intro i
  induction i with
  | zero =>
    intro b hb
    rw [h0] at hb
    cases hb
    exact .refl (ok _ (List.mem_of_getElem? h0))
  | succ i ih =>
    intro b hb
    have hl : i < cs.length := by
      have := (List.getElem?_eq_some_iff.mp hb).1
      omega
    exact .snoc (ih _ (List.getElem?_eq_getElem hl)) (adj i _ _ (List.getElem?_eq_getElem hl) hb) (ok _ (List.mem_of_getElem? hb))
theorem IsChain.joined {R C h : Int} {S : Cell → Prop} {cs : List Cell} (j : IsChain R C h S cs) : Joined R C h S := by
  obtain ⟨a, ha, fa⟩ := j.fst
  obtain ⟨d, hd, ld⟩ := j.lst
  exact ⟨a, d, fa, ld, linked_list j.ok j.adj ha _ d hd⟩
theorem IsChain.pos {R C h : Int} {S : Cell → Prop} {cs : List Cell} (j : IsChain R C h S cs) : 0 < cs.length := by
  obtain ⟨a, ha, fa⟩ := j.fst
  exact (List.getElem?_eq_some_iff.mp ha).1
theorem IsChain.len {R C h : Int} {S : Cell → Prop} {cs : List Cell} (j : IsChain R C h S cs) (hR : R ≤ 10) (hC : C ≤ 10) : cs.length ≤ 100 := fewc hR hC j.nd fun c m => (j.ok c m).1
theorem at_left {α : Type} {l m : List α} {i : Nat} {x : α} (h : l[i]? = some x) : (l ++ m)[i]? = some x := by
  rw [List.getElem?_append_left (List.getElem?_eq_some_iff.mp h).1]
  exact h
theorem at_snoc {α : Type} {l : List α} {a x : α} {i : Nat} (h : (l ++ [a])[i]? = some x) : l[i]? = some x ∨ (i = l.length ∧ x = a) := by
  by_cases hl : i < l.length
  · rw [List.getElem?_append_left hl] at h
    exact .inl h
  · rw [List.getElem?_append_right (by omega)] at h
    have e : i - l.length = 0 := by
      have := (List.getElem?_eq_some_iff.mp h).1
      rw [List.length_singleton] at this
      omega
    rw [e] at h
    exact .inr ⟨by omega, (Option.some.inj h).symm⟩
theorem adj_snoc {l : List Cell} {p c : Cell} (h : AdjL l) (hp : l[l.length - 1]? = some p) (e : Adj p c) : AdjL (l ++ [c]) := by
  intro i a b ha hb
  rcases at_snoc hb with hb | ⟨hi, rfl⟩
  · have hi := (List.getElem?_eq_some_iff.mp hb).1
    rw [List.getElem?_append_left (by omega)] at ha
    exact h i a b ha hb
  · rw [List.getElem?_append_left (by omega)] at ha
    rw [show l.length - 1 = i by omega, ha] at hp
    cases hp
    exact e

/-! ### trees of ways back -/
abbrev Back := List (Cell × Option Cell)
/-- back leads from every cell to a first one -/
structure Ftree (P F : Cell → Prop) (kv : Back) : Prop where
  nd : (kv.map (·.1)).Nodup
  rk : ∃ rank : Cell → Nat, ∀ (c : Cell) (o : Option Cell), lk kv c = some o → P c ∧ rank c < kv.length ∧ (o = none → F c) ∧ ∀ p, o = some p → (∃ q, lk kv p = some q) ∧ rank p < rank c ∧ Adj p c
theorem Ftree.nil {P F : Cell → Prop} : Ftree P F [] := ⟨List.nodup_nil, fun _ => 0, fun _ _ h => by rw [lk_nil] at h; cases h⟩
theorem Ftree.add {P F : Cell → Prop} {kv : Back} (t : Ftree P F kv) {a : Cell} {o : Option Cell} (n : lk kv a = none) (pa : P a) (h0 : o = none → F a) (h1 : ∀ p, o = some p → (∃ q, lk kv p = some q) ∧ Adj p a) : Ftree P F (kv ++ [(a, o)]) := by
  obtain ⟨nd, rank, rk⟩ := t
  refine ⟨snoc_nodup nd n, fun c => if c = a then kv.length else rank c, fun c o' h => ?_⟩
  rw [lk_snoc _ _ _ _ n] at h
  rw [List.length_append, List.length_singleton]
  dsimp only
  by_cases e : a = c
  · subst e
    rw [if_pos rfl] at h
    cases h
    refine ⟨pa, by rw [if_pos rfl]; omega, h0, fun p hp => ?_⟩
    obtain ⟨⟨q, hq⟩, ad⟩ := h1 p hp
    have ne : p ≠ a := fun z => by rw [z, n] at hq; cases hq
    refine ⟨⟨q, by rw [lk_snoc _ _ _ _ n, if_neg ne.symm]; exact hq⟩, ?_, ad⟩
    rw [if_neg ne, if_pos rfl]
    exact (rk _ _ hq).2.1
  · rw [if_neg e] at h
    obtain ⟨k1, k2, k3, k4⟩ := rk c o' h
    rw [if_neg fun z => e z.symm]
    refine ⟨k1, by omega, k3, fun p hp => ?_⟩
    obtain ⟨⟨q, hq⟩, r, ad⟩ := k4 p hp
    have ne : a ≠ p := fun z => by rw [← z, n] at hq; cases hq
    refine ⟨⟨q, by rw [lk_snoc _ _ _ _ n, if_neg ne]; exact hq⟩, ?_, ad⟩
    rw [if_neg ne.symm]
    exact r
/-- the way by which c was come to -/
inductive Way (kv : Back) : Cell → List Cell → Prop
  | root {c : Cell} : lk kv c = some none → Way kv c [c]
  | step {c p : Cell} {l : List Cell} : lk kv c = some (some p) → Way kv p l → Way kv c (l ++ [c])
theorem Way.last {kv : Back} {c : Cell} {l : List Cell} (w : Way kv c l) : l[l.length - 1]? = some c := by
  cases w with
  | root _ => rfl
  | step _ _ => simp
theorem Way.mem {kv : Back} {c : Cell} {l : List Cell} (w : Way kv c l) : ∀ x ∈ l, ∃ o, lk kv x = some o := by
  induction w with
  | root h => intro x m; rw [List.mem_singleton.mp m]; exact ⟨_, h⟩
  | step h _ ih =>
    intro x m
    rcases List.mem_append.mp m with m | m
    · exact ih x m
    · rw [List.mem_singleton.mp m]; exact ⟨_, h⟩
theorem Way.pos {kv : Back} {c : Cell} {l : List Cell} (w : Way kv c l) : 0 < l.length := by
  cases w with
  | root _ => exact Nat.one_pos
  | step _ _ => simp
theorem Way.good {P F : Cell → Prop} {kv : Back} (t : Ftree P F kv) {c : Cell} {l : List Cell} (w : Way kv c l) : l.Nodup ∧ AdjL l ∧ (∀ x ∈ l, P x) ∧ ∃ a, l[0]? = some a ∧ F a := by
  obtain ⟨nd, rank, rk⟩ := t
  suffices h : l.Nodup ∧ AdjL l ∧ (∃ a, l[0]? = some a ∧ F a) ∧ ∀ x ∈ l, rank x ≤ rank c from
    ⟨h.1, h.2.1, fun x m => (rk x _ (w.mem x m).choose_spec).1, h.2.2.1⟩
  induction w with
  | root h =>
    refine ⟨List.nodup_cons.mpr ⟨by simp, List.nodup_nil⟩, fun i a b _ hb => by simp at hb, ⟨_, rfl, (rk _ _ h).2.2.1 rfl⟩, fun x m => by rw [List.mem_singleton.mp m]; exact Nat.le_refl _⟩
  | @step c p l h w ih =>
    obtain ⟨i1, i2, ⟨a, i3, i4⟩, i5⟩ := ih
    obtain ⟨_, r, ad⟩ := (rk _ _ h).2.2.2 p rfl
    refine ⟨nd_snoc i1 fun m => by have := i5 c m; omega, adj_snoc i2 w.last ad, ⟨a, at_left i3, i4⟩, fun x m => ?_⟩
    rcases List.mem_append.mp m with m | m
    · have := i5 x m; omega
    · rw [List.mem_singleton.mp m]; exact Nat.le_refl _
theorem Way.chain {R C h : Int} {S : Cell → Prop} {kv : Back} (t : Ftree (In R C S) (Fst h) kv) {c : Cell} {l : List Cell} (w : Way kv c l) (e : Lst R C h c) : IsChain R C h S l := by
  obtain ⟨h1, h2, h3, h4⟩ := w.good t
  exact ⟨h1, h3, h2, h4, c, w.last, e⟩
/-- a sum over the way: f grows by g at each step -/
theorem Way.sum {kv : Back} {f : Cell → Nat} {g : Cell → Bool} (h0 : ∀ c, lk kv c = some none → f c = if g c = true then 1 else 0) (h1 : ∀ c p, lk kv c = some (some p) → f c = f p + if g c = true then 1 else 0) {c : Cell} {l : List Cell} (w : Way kv c l) : (l.filter g).length = f c := by
  induction w with
  | @root c h =>
    rw [h0 c h]
    by_cases e : g c = true
    · rw [List.filter_cons_of_pos e, if_pos e]; rfl
    · rw [List.filter_cons_of_neg e, if_neg e]; rfl
  | @step c p l h w ih =>
    rw [List.filter_append, List.length_append, ih, h1 c p h]
    by_cases e : g c = true
    · rw [List.filter_cons_of_pos e, if_pos e]; rfl
    · rw [List.filter_cons_of_neg e, if_neg e]; rfl

/-! ### floods -/
/-- ks: cells come to from the first side, n of them done -/
structure Flood (P F : Cell → Prop) (ks : List Cell) (n : Nat) : Prop where
  nd : ks.Nodup
  ok : ∀ c ∈ ks, ∃ a, F a ∧ Linked P a c
  fst : ∀ c, P c → F c → c ∈ ks
  cl : ∀ i, i < n → ∀ c, ks[i]? = some c → ∀ b, Adj c b → P b → b ∈ ks
theorem Flood.all {P F : Cell → Prop} {ks : List Cell} (f : Flood P F ks ks.length) {a d : Cell} (fa : F a) (l : Linked P a d) : d ∈ ks :=
  Linked.ind (fun z => z ∈ ks) l (f.fst a l.left fa) fun c d _ pd e m => by
    obtain ⟨i, hi, e2⟩ := List.mem_iff_getElem.mp m
    exact f.cl i hi c (List.getElem?_eq_some_iff.mpr ⟨hi, e2⟩) d e pd
/-- the one at n is being done: its neighbours in ts have been seen -/
structure FloodAt (P F : Cell → Prop) (ks : List Cell) (n : Nat) (c : Cell) (ts : List Cell) : Prop where
  fl : Flood P F ks n
  at' : ks[n]? = some c
  cl : ∀ b ∈ ts, P b → b ∈ ks
theorem FloodAt.skip {P F : Cell → Prop} {ks ts : List Cell} {n : Nat} {c b : Cell} (f : FloodAt P F ks n c ts) (h : P b → b ∈ ks) : FloodAt P F ks n c (ts ++ [b]) :=
  ⟨f.fl, f.at', fun z m => (List.mem_append.mp m).elim (f.cl z) fun m => by rw [List.mem_singleton.mp m]; exact h⟩
theorem FloodAt.add {P F : Cell → Prop} {ks ts : List Cell} {n : Nat} {c b : Cell} (f : FloodAt P F ks n c ts) (n0 : b ∉ ks) (pb : P b) (e : Adj c b) : FloodAt P F (ks ++ [b]) n c (ts ++ [b]) := by
  have hn := (List.getElem?_eq_some_iff.mp f.at').1
  refine ⟨⟨nd_snoc f.fl.nd n0, fun z m => ?_, fun z pz fz => List.mem_append.mpr (.inl (f.fl.fst z pz fz)), fun i hi z hz d ad pd => ?_⟩, at_left f.at', fun z m pz => ?_⟩
  · rcases List.mem_append.mp m with m | m
    · exact f.fl.ok z m
    · rw [List.mem_singleton.mp m]
      obtain ⟨a, fa, l⟩ := f.fl.ok c (List.mem_of_getElem? f.at')
      exact ⟨a, fa, .snoc l e pb⟩
  · rw [List.getElem?_append_left (by omega)] at hz
    exact List.mem_append.mpr (.inl (f.fl.cl i hi z hz d ad pd))
  · rcases List.mem_append.mp m with m | m
    · exact List.mem_append.mpr (.inl (f.cl z m pz))
    · exact List.mem_append.mpr (.inr m)
theorem FloodAt.done {P F : Cell → Prop} {ks ts : List Cell} {n : Nat} {c : Cell} (f : FloodAt P F ks n c ts) (h : ∀ b, Adj c b → P b → b ∈ ts) : Flood P F ks (n + 1) :=
  ⟨f.fl.nd, f.fl.ok, f.fl.fst, fun i hi z hz b e pb => by
    by_cases q : i < n
    · exact f.fl.cl i q z hz b e pb
    · have : i = n := by omega
      subst this
      rw [f.at'] at hz
      cases hz
      exact f.cl b (h b e pb) pb⟩
theorem Flood.none {R C h : Int} {S : Cell → Prop} {ks : List Cell} (f : Flood (In R C S) (Fst h) ks ks.length) (k : ∀ c ∈ ks, ¬ Lst R C h c) : ¬ Joined R C h S := by
  rintro ⟨a, d, fa, ld, l⟩
  exact k d (f.all fa l) ld
end SC
namespace SC
open PySem PyProof.Rows L2

theorem szl {xs : List V} (h : Nat.ble xs.length 100 = true := by rfl) : xs.length ≤ sizeLine := Nat.le_of_lt (small100 (Nat.le_trans (Nat.le_of_ble_eq_true h) (by decide)))
/-! ### a dict of cells to cells or None -/
def OptAt (H : Hp) (v : V) : Option Cell → Prop
  | none => v = .non
  | some c => PairAt H v c
theorem OptAt.same {H H' : Hp} {v : V} {o : Option Cell} (h : OptAt H v o) (s : Same H H') : OptAt H' v o := by
  cases o with
  | none => exact h
  | some c => exact PairAt.same h s
theorem OptAt.upd {H : Hp} {v : V} {c : Option Cell} {a : Addr} {o o' : HO} (h : OptAt H v c) (ha : H a = some o) (hn : ∀ xs, o ≠ .tup xs) : OptAt (upd H a o') v c := by
  cases c with
  | none => exact h
  | some c => exact PairAt.upd h ha hn
theorem OptAt.non {H : Hp} {v : V} {o : Option Cell} (h : OptAt H v o) : decide (v = .non) = o.isNone := by
  cases o with
  | none => rw [show v = .non from h]; rfl
  | some c =>
    obtain ⟨t, e, _⟩ := h
    rw [e]
    rfl
abbrev BPair (H : Hp) (x : List Key × V) (y : Cell × Option Cell) : Prop := x.1 = key y.1 ∧ OptAt H x.2 y.2
abbrev BackRel (H : Hp) (bv : List (List Key × V)) (kv : Back) : Prop := Paired (BPair H) bv kv
theorem BackRel.same {H H' : Hp} {bv : List (List Key × V)} {kv : Back} (h : BackRel H bv kv) (s : Same H H') : BackRel H' bv kv := L2.Paired.mapP h fun _ _ p => ⟨p.1, p.2.same s⟩
theorem BackRel.upd {H : Hp} {bv : List (List Key × V)} {kv : Back} {a : Addr} {o o' : HO} (h : BackRel H bv kv) (ha : H a = some o) (hn : ∀ xs, o ≠ .tup xs) : BackRel (upd H a o') bv kv := L2.Paired.mapP h fun _ _ p => ⟨p.1, p.2.upd ha hn⟩
theorem back_val {H : Hp} {c : Cell} : ∀ {bv : List (List Key × V)} {kv : Back}, BackRel H bv kv → (lk kv c = none → valV bv (key c) = none) ∧ ∀ o, lk kv c = some o → ∃ v, valV bv (key c) = some v ∧ OptAt H v o
  | _, _, .nil => ⟨fun _ => rfl, fun o h => by rw [lk_nil] at h; cases h⟩
  | x :: bv, y :: kv, .cons p r => by
    have ih := back_val (c := c) r
    obtain ⟨p1, p2⟩ := p
    unfold valV at ih ⊢
    rw [List.find?_cons, lk_cons]
    by_cases e : y.1 = c
    · subst e
      rw [p1]
      simp only [decide_true, if_true]
      exact ⟨(fun h => nomatch h), fun o h => by cases h; exact ⟨_, rfl, p2⟩⟩
    · have e2 : ¬ x.1 = key c := fun z => e (key_inj (p1.symm.trans z))
      simp only [e2, decide_false, if_neg e]
      exact ih
theorem back_isSome {H : Hp} {c : Cell} {bv : List (List Key × V)} {kv : Back} (h : BackRel H bv kv) : (valV bv (key c)).isSome = (lk kv c).isSome := by
  cases e : lk kv c with
  | none => rw [(back_val h).1 e]; rfl
  | some o =>
    obtain ⟨v, hv, _⟩ := (back_val h).2 o e
    rw [hv]
    rfl
theorem back_put {H : Hp} {a : Cell} {v : V} {o : Option Cell} {bv : List (List Key × V)} {kv : Back} (h : BackRel H bv kv) (n : lk kv a = none) (hv : OptAt H v o) : BackRel H (putK bv (key a) v) (kv ++ [(a, o)]) := by
  rw [putK_new _ ((back_val h).1 n)]
  exact paired_app h (.cons ⟨rfl, hv⟩ .nil)
theorem back_len {H : Hp} {bv : List (List Key × V)} {kv : Back} (h : BackRel H bv kv) : bv.length = kv.length := paired_len h

/-! ### a dict of cells to True -/
def tag (cs : List Cell) : List (Cell × Bool) := cs.map fun c => (c, true)
/-- the dict at a holds just the cells cs -/
def Al (H : Hp) (a : Addr) (cs : List Cell) : Prop := H a = some (.dT (dk V.bl (tag cs)))
theorem tag_snoc (cs : List Cell) (c : Cell) : tag (cs ++ [c]) = tag cs ++ [(c, true)] := by
  unfold tag
  rw [List.map_append]
  rfl
theorem lk_tag (cs : List Cell) (c : Cell) : lk (tag cs) c = if c ∈ cs then some true else none := by
  unfold tag
  induction cs with
  | nil => rfl
  | cons x cs ih =>
    rw [List.map_cons, lk_cons, ih]
    by_cases e : x = c
    · subst e; simp
    · rw [if_neg e]
      have e' : ¬ c = x := fun z => e z.symm
      simp [List.mem_cons, e']
theorem tag_keys (cs : List Cell) : (tag cs).map (·.1) = cs := by
  unfold tag
  rw [List.map_map]
  exact List.map_id cs
theorem tag_len (cs : List Cell) : (dk V.bl (tag cs)).length = cs.length := by
  unfold dk tag
  rw [List.length_map, List.length_map]
theorem al_isSome (cs : List Cell) (c : Cell) : (valV (dk V.bl (tag cs)) (key c)).isSome = decide (c ∈ cs) := by
  rw [val_dk, lk_tag]
  by_cases e : c ∈ cs
  · rw [if_pos e, decide_eq_true e]; rfl
  · rw [if_neg e, decide_eq_false e]; rfl
theorem al_put {cs : List Cell} {c : Cell} (n : c ∉ cs) : putK (dk V.bl (tag cs)) (key c) (V.bl true) = dk V.bl (tag (cs ++ [c])) := by
  rw [tag_snoc]
  exact put_dk V.bl _ _ _ (by rw [lk_tag, if_neg n])
/-- a store of a cell that is there already -/
theorem al_has {cs : List Cell} {c : Cell} (m : c ∈ cs) : putK (dk V.bl (tag cs)) (key c) (V.bl true) = dk V.bl (tag cs) := by
  unfold putK
  have ha : ((dk V.bl (tag cs)).any fun kv => decide (kv.fst = key c)) = true := List.any_eq_true.mpr ⟨(key c, V.bl true), List.mem_map.mpr ⟨(c, true), List.mem_map.mpr ⟨c, m, rfl⟩, rfl⟩, decide_eq_true rfl⟩
  rw [if_pos ha]
  refine (List.map_congr_left fun kv hkv => ?_).trans (List.map_id _)
  obtain ⟨p, hp, rfl⟩ := List.mem_map.mp hkv
  obtain ⟨z, _, rfl⟩ := List.mem_map.mp hp
  by_cases e : key z = key c
  · rw [if_pos e]; rfl
  · rw [if_neg e]; rfl
/-- a new dict of just the cells for which p holds -/
def NewAl (H : Hp) (R C : Int) (p : Cell → Prop) (Q : VK) : Prop := ∀ l cs H', Same H H' → H l = none → Al H' l cs → cs.Nodup → (∀ c, c ∈ cs ↔ B R C c ∧ p c) → Q (.ref l) H'
theorem cellsN_nodup : ∀ R C : Nat, (cellsN R C).Nodup
  | 0, _ => List.nodup_nil
  | R + 1, C => by
    unfold cellsN
    rw [List.range_succ, List.flatMap_append]
    rw [show List.flatMap (fun (r : Nat) => (List.range C).map fun (c : Nat) => (((r : Nat) : Int), ((c : Nat) : Int))) [R] = (List.range C).map fun (c : Nat) => (((R : Nat) : Int), ((c : Nat) : Int)) by simp]
    refine List.nodup_append.mpr ⟨cellsN_nodup R C, ?_, ?_⟩
    · refine List.Pairwise.map _ (fun a b h e => h ?_) List.nodup_range
      injection e with _ e
      exact Int.ofNat.inj e
    · intro a ha b hb e
      subst e
      simp only [List.mem_flatMap, List.mem_range, List.mem_map] at ha
      obtain ⟨r, hr, k, _, e1⟩ := ha
      obtain ⟨k2, _, e2⟩ := List.mem_map.mp hb
      rw [← e2] at e1
      injection e1 with e1 _
      have := Int.ofNat.inj e1
      omega
theorem cells_nodup (R C : Int) : (cells R C).Nodup := cellsN_nodup _ _
/-- the one at i is not among those ahead of it -/
theorem not_taken {α : Type} {l : List α} (nd : l.Nodup) {i : Nat} {x : α} (h : l[i]? = some x) : x ∉ l.take i := by
  intro m
  obtain ⟨j, hj, e⟩ := List.mem_iff_getElem.mp m
  rw [List.length_take] at hj
  rw [List.getElem_take] at e
  obtain ⟨hi, e2⟩ := List.getElem?_eq_some_iff.mp h
  have := (List.getElem_inj nd).mp (e.trans e2.symm)
  omega
theorem taken_mem {α : Type} {l : List α} {i : Nat} {x : α} (m : x ∈ l.take i) : x ∈ l := List.mem_of_mem_take m

/-! ### promises -/
def sp_on_first (K : PySem.W.Frag) (_ : Ad) : Sp := fun vs H Q _ => ∃ v c h, vs = [v, .int h] ∧ PairAt H v c ∧ Hand h ∧ Q (.bl (decide (Fst h c))) H
def sp_on_last (_ : PySem.W.Frag) (D : Ad) : Sp := fun vs H Q _ => ∃ b d R C kv v c h, vs = [.ref b, v, .int h] ∧ BoardAt D H b d R C kv ∧ PairAt H v c ∧ Hand h ∧ Q (.bl (decide (Lst R C h c))) H
/-- the outcome of a search for a chain -/
structure ChainOr (H : Hp) (R C h : Int) (S : Cell → Prop) (Q : VK) : Prop where
  yes : ∀ l cs, IsChain R C h S cs → ∀ vs H', Same H H' → H l = none → H' l = some (.lst vs) → Cells H' vs cs → Q (.ref l) H'
  no : ¬ Joined R C h S → Keep H .non Q
theorem ChainOr.congr {H : Hp} {R C h : Int} {S U : Cell → Prop} {Q : VK} (c : ChainOr H R C h S Q) (k : ∀ c, B R C c → (S c ↔ U c)) : ChainOr H R C h U Q :=
  ⟨fun l cs i => c.yes l cs (i.mono' fun c b => (k c b).symm), fun n => c.no fun j => n ((joined_congr k).mp j)⟩
def sp_way_back (_ : PySem.W.Frag) (_ : Ad) : Sp := fun vs H Q _ => ∃ a v c bv kv P F, vs = [.ref a, v] ∧ H a = some (.dT bv) ∧ BackRel H bv kv ∧ PairAt H v c ∧ Ftree P F kv ∧ kv.length ≤ 100 ∧ (∃ o, lk kv c = some o) ∧ ∀ l cs, Way kv c cs → ∀ vs H', Same H H' → H l = none → H' l = some (.lst vs) → Cells H' vs cs → Q (.ref l) H'
def sp_chain_within (_ : PySem.W.Frag) (D : Ad) : Sp := fun vs H Q _ => ∃ b d R C kv h al cs, vs = [.ref b, .int h, .ref al] ∧ BoardAt D H b d R C kv ∧ Hand h ∧ Al H al cs ∧ ChainOr H R C h (fun c => c ∈ cs) Q
/-- the cells that belong to a hand -/
def Owns (kv : Own) (h : Int) (c : Cell) : Prop := lk kv c = some h
instance (kv : Own) (h : Int) (c : Cell) : Decidable (Owns kv h c) := by unfold Owns; infer_instance
theorem owns_iff {R C : Int} {kv : Own} (k : BOk R C kv) {h : Int} (hh : Hand h) (c : Cell) : ow kv c = h ↔ Owns kv h c := by
  unfold Owns
  rcases k.ow_hand c with ⟨e, n⟩ | ⟨e, n⟩
  · rw [e, n]
    constructor
    · intro z; rcases hh with rfl | rfl <;> omega
    · intro z; cases z
  · rw [n]
    constructor
    · intro z; rw [z]
    · intro z; exact Option.some.inj z
theorem empty_iff {R C : Int} {kv : Own} (k : BOk R C kv) (c : Cell) : ow kv c = 0 ↔ lk kv c = none := by
  rcases k.ow_hand c with ⟨e, n⟩ | ⟨e, n⟩
  · rw [e, n]; simp
  · rw [n]
    constructor
    · intro z; rcases e with e | e <;> omega
    · intro z; cases z
def sp_owned_by (_ : PySem.W.Frag) (D : Ad) : Sp := fun vs H Q _ => ∃ b d R C kv h, vs = [.ref b, .int h] ∧ BoardAt D H b d R C kv ∧ Hand h ∧ NewAl H R C (Owns kv h) Q
def sp_chain (_ : PySem.W.Frag) (D : Ad) : Sp := fun vs H Q E => ∃ b d R C kv h, vs = [.ref b, .int h] ∧ BoardAt D H b d R C kv ∧ (¬ Hand h → E (.ref D.eNoHand) none H) ∧ (Hand h → ChainOr H R C h (Owns kv h) Q)
def sp_winner (_ : PySem.W.Frag) (D : Ad) : Sp := fun vs H Q _ => ∃ b d R C kv, vs = [.ref b] ∧ BoardAt D H b d R C kv ∧ (empt R C kv ≠ [] → Keep H .non Q) ∧ (empt R C kv = [] → Joined R C 1 (Owns kv 1) → Keep H (.int 1) Q) ∧ (empt R C kv = [] → ¬ Joined R C 1 (Owns kv 1) → Keep H (.int 2) Q)
theorem Keep.same {H H' : Hp} {v : V} {Q : VK} (k : Keep H v Q) (s : Same H H') : Keep H' v Q := fun _ s2 => k _ (s.trans s2)
theorem NewCells.same {H H' : Hp} {cs : List Cell} {Q : VK} (k : NewCells H cs Q) (s : Same H H') : NewCells H' cs Q := fun l vs _ s2 n => k l vs _ (s.trans s2) (s.free n)
theorem NewAl.same {H H' : Hp} {R C : Int} {p : Cell → Prop} {Q : VK} (k : NewAl H R C p Q) (s : Same H H') : NewAl H' R C p Q := fun l cs _ s2 n => k l cs _ (s.trans s2) (s.free n)
theorem ChainOr.same {H H' : Hp} {R C h : Int} {S : Cell → Prop} {Q : VK} (c : ChainOr H R C h S Q) (s : Same H H') : ChainOr H' R C h S Q :=
  ⟨fun l cs i vs _ s2 n => c.yes l cs i vs _ (s.trans s2) (s.free n), fun n => (c.no n).same s⟩
theorem ref_non (l : Addr) : decide (V.ref l = V.non) = false := rfl
theorem Al.same {H H' : Hp} {a : Addr} {cs : List Cell} (h : Al H a cs) (s : Same H H') : Al H' a cs := s _ _ h
theorem keys_snoc {α : Type} (kv : List (Cell × α)) (p : Cell × α) : (kv ++ [p]).map (·.1) = kv.map (·.1) ++ [p.1] := by
  rw [List.map_append]
  rfl
theorem lk_of_mem {α : Type} {kv : List (Cell × α)} {c : Cell} (m : c ∈ kv.map (·.1)) : ∃ o, lk kv c = some o := by
  cases e : lk kv c with
  | none => exact absurd m (lk_none.mp e)
  | some o => exact ⟨o, rfl⟩
theorem lk_not_mem {α : Type} {kv : List (Cell × α)} {c : Cell} (m : c ∉ kv.map (·.1)) : lk kv c = none := lk_none.mpr m
/-- the flood's first cells are found -/
structure Firsts (P F : Cell → Prop) (kv : Back) (ts : List Cell) : Prop where
  ft : Ftree P F kv
  sub : ∀ c ∈ kv.map (·.1), c ∈ ts ∧ F c
  all : ∀ c ∈ ts, P c → F c → c ∈ kv.map (·.1)
theorem Firsts.nil {P F : Cell → Prop} : Firsts P F [] [] := ⟨.nil, fun _ m => (by cases m), fun _ m => (by cases m)⟩
theorem Firsts.skip {P F : Cell → Prop} {kv : Back} {ts : List Cell} {c : Cell} (f : Firsts P F kv ts) (n : ¬ (P c ∧ F c)) : Firsts P F kv (ts ++ [c]) :=
  ⟨f.ft, fun z m => ⟨List.mem_append.mpr (.inl (f.sub z m).1), (f.sub z m).2⟩, fun z m pz fz => (List.mem_append.mp m).elim (fun m => f.all z m pz fz) fun m => by rw [List.mem_singleton.mp m] at pz fz; exact absurd ⟨pz, fz⟩ n⟩
theorem Firsts.add {P F : Cell → Prop} {kv : Back} {ts : List Cell} {c : Cell} (f : Firsts P F kv ts) (pc : P c) (fc : F c) (n : c ∉ ts) : lk kv c = none ∧ Firsts P F (kv ++ [(c, none)]) (ts ++ [c]) := by
  have n' : lk kv c = none := lk_not_mem fun m => n (f.sub c m).1
  refine ⟨n', f.ft.add n' pc (fun _ => fc) (fun p h => nomatch h), fun z m => ?_, fun z m pz fz => ?_⟩
  · rw [keys_snoc] at m
    rcases List.mem_append.mp m with m | m
    · exact ⟨List.mem_append.mpr (.inl (f.sub z m).1), (f.sub z m).2⟩
    · rw [List.mem_singleton.mp m]; exact ⟨List.mem_append.mpr (.inr (List.mem_singleton.mpr rfl)), fc⟩
  · rw [keys_snoc]
    rcases List.mem_append.mp m with m | m
    · exact List.mem_append.mpr (.inl (f.all z m pz fz))
    · exact List.mem_append.mpr (.inr m)
theorem Firsts.flood {R C : Int} {S F : Cell → Prop} {kv : Back} (f : Firsts (In R C S) F kv (cells R C)) : Flood (In R C S) F (kv.map (·.1)) 0 := by
  obtain ⟨nd, rank, rk⟩ := f.ft
  refine ⟨nd, fun c m => ?_, fun c pc fc => f.all c (mem_cells.mpr pc.1) pc fc, fun i hi => absurd hi (Nat.not_lt_zero i)⟩
  obtain ⟨o, ho⟩ := lk_of_mem m
  exact ⟨c, (f.sub c m).2, .refl (rk c o ho).1⟩
theorem Ftree.few {R C : Int} (hr : R ≤ 10) (hc : C ≤ 10) {S F : Cell → Prop} {kv : Back} (f : Ftree (In R C S) F kv) : kv.length ≤ 100 := by
  obtain ⟨nd, rank, rk⟩ := f
  refine SC.few hr hc nd fun p hp => ?_
  obtain ⟨o, ho⟩ := lk_of_mem (List.mem_map.mpr ⟨p, hp, rfl⟩)
  exact (rk _ o ho).1.1
theorem Al.len {R C : Int} (hr : R ≤ 10) (hc : C ≤ 10) {cs : List Cell} (nd : cs.Nodup) (hB : ∀ c ∈ cs, B R C c) : (dk V.bl (tag cs)).length < sizeLine := by
  rw [tag_len]
  exact small100 (Nat.le_trans (fewc hr hc nd hB) (by decide))
end SC
namespace SC
open PySem PyProof.Rows L2

/-! ### the laws' own dicts of owners -/
def OvAt (H : Hp) (o : Addr) (ov : Own) : Prop := H o = some (.dT (dk V.int ov))
theorem OvAt.same {H H' : Hp} {o : Addr} {ov : Own} (h : OvAt H o ov) (s : Same H H') : OvAt H' o ov := s _ _ h
theorem cells_keys {α : Type} {H : Hp} (g : α → V) : ∀ {kv : List (Cell × α)} {bs : List Addr}, IsKeys H (dk g kv) bs → Cells H (bs.map V.ref) (kv.map (·.1))
  | [], [], .nil => .nil
  | _ :: _, _ :: _, .cons h t => .cons ⟨_, rfl, h⟩ (cells_keys g t)
theorem BOk.take {R C : Int} {kv : Own} (h : BOk R C kv) (i : Nat) : BOk R C (kv.take i) :=
  ⟨h.r1, h.r2, h.c1, h.c2, h.nd.sublist ((List.take_sublist _ _).map _), fun p m => h.ok p (List.mem_of_mem_take m)⟩
theorem BOk.size {R C : Int} {kv : Own} (h : BOk R C kv) : Size R C := ⟨h.r1, h.r2, h.c1, h.c2⟩
theorem BOk.fresh {R C : Int} {kv : Own} (h : BOk R C kv) {i : Nat} {p : Cell × Int} (e : kv[i]? = some p) : lk (kv.take i) p.1 = none := by
  refine lk_not_mem fun m => not_taken (l := kv.map (·.1)) h.nd (i := i) (x := p.1) ?_ ?_
  · rw [List.getElem?_map, e]; rfl
  · rw [← List.map_take]; exact m
theorem BOk.at {R C : Int} {kv : Own} (h : BOk R C kv) {i : Nat} {p : Cell × Int} (e : kv[i]? = some p) : lk kv p.1 = some p.2 ∧ B R C p.1 ∧ Hand p.2 :=
  ⟨lk_mem h.nd (List.mem_of_getElem? e), (h.ok p (List.mem_of_getElem? e)).1, (h.ok p (List.mem_of_getElem? e)).2⟩
def Full (R C : Int) (kv : Own) : Prop := ∀ c, B R C c → lk kv c ≠ none
theorem full_empt {R C : Int} {kv : Own} : empt R C kv = [] ↔ Full R C kv := by
  constructor
  · intro e c b n
    have m : c ∈ empt R C kv := mem_empt.mpr ⟨b, n⟩
    rw [e] at m
    cases m
  · intro f
    refine List.eq_nil_iff_forall_not_mem.mpr fun c m => ?_
    have m := mem_empt.mp m
    exact f c m.1 m.2
/-- the dict is filled, up to row i, column j -/
structure Filling (R C : Int) (full : Bool) (i j : Nat) (ov : Own) : Prop where
  ok : BOk R C ov
  lt : ∀ c : Cell, c ∈ ov.map (·.1) → c.1 < i ∨ (c.1 = i ∧ c.2 < j)
  all : full = true → ∀ c : Cell, B R C c → (c.1 < i ∨ (c.1 = i ∧ c.2 < j)) → lk ov c ≠ none
theorem Filling.free {R C : Int} {full : Bool} {i j : Nat} {ov : Own} (f : Filling R C full i j ov) : lk ov ((i : Int), (j : Int)) = none :=
  lk_not_mem fun m => by have := f.lt _ m; dsimp only at this; omega
theorem Filling.put {R C : Int} {full : Bool} {i j : Nat} {ov : Own} (f : Filling R C full i j ov) (hi : (i : Int) < R) (hj : (j : Int) < C) {v : Int} (hv : Hand v) : Filling R C full i (j + 1) (ov ++ [(((i : Int), (j : Int)), v)]) := by
  refine ⟨f.ok.put ⟨by dsimp only; omega, hi, by dsimp only; omega, hj⟩ hv f.free, fun c m => ?_, fun e c b h => ?_⟩
  · rw [keys_snoc] at m
    rcases List.mem_append.mp m with m | m
    · have := f.lt c m; omega
    · rw [List.mem_singleton.mp m]; dsimp only; omega
  · rw [lk_snoc _ _ _ _ f.free]
    by_cases q : ((i : Int), (j : Int)) = c
    · rw [if_pos q]; exact fun z => nomatch z
    · rw [if_neg q]
      refine f.all e c b ?_
      have q2 : ¬ (c.1 = i ∧ c.2 = j) := fun z => q (Prod.ext z.1.symm z.2.symm)
      omega
theorem Filling.skip {R C : Int} {i j : Nat} {ov : Own} (f : Filling R C false i j ov) : Filling R C false i (j + 1) ov :=
  ⟨f.ok, fun c m => by have := f.lt c m; omega, fun e => nomatch e⟩
theorem Filling.row {R C : Int} {full : Bool} {i j : Nat} {ov : Own} (f : Filling R C full i j ov) (hj : C ≤ j) : Filling R C full (i + 1) 0 ov :=
  ⟨f.ok, fun c m => by have := f.lt c m; omega, fun e c b h => f.all e c b (by unfold B at b; omega)⟩
theorem Filling.nil {R C : Int} (s : Size R C) (full : Bool) : Filling R C full 0 0 [] :=
  ⟨BOk.nil s.1 s.2.1 s.2.2.1 s.2.2.2, fun c m => (by cases m), fun e c b h => by unfold B at b; omega⟩
theorem Filling.full {R C : Int} {full : Bool} {i j : Nat} {ov : Own} (f : Filling R C full i j ov) (hi : R ≤ i) : full = true → Full R C ov := fun e c b => f.all e c b (by unfold B at b; omega)
/-- a new dict of owners, of whatever hands -/
def NewOv (H : Hp) (R C : Int) (full : Bool) (Q : VK) : Prop := ∀ l ov H', Same H H' → H l = none → OvAt H' l ov → BOk R C ov → (full = true → Full R C ov) → Q (.ref l) H'
theorem NewOv.same {H H' : Hp} {R C : Int} {full : Bool} {Q : VK} (k : NewOv H R C full Q) (s : Same H H') : NewOv H' R C full Q := fun l ov _ s2 n => k l ov _ (s.trans s2) (s.free n)
/-- a new board of these owners -/
def NewBoard (D : Ad) (H : Hp) (R C : Int) (kv : Own) (Q : VK) : Prop := ∀ b d H', Same H H' → H b = none → H d = none → BoardAt D H' b d R C kv → Q (.ref b) H'
theorem NewBoard.same {D : Ad} {H H' : Hp} {R C : Int} {kv : Own} {Q : VK} (k : NewBoard D H R C kv Q) (s : Same H H') : NewBoard D H' R C kv Q := fun b d _ s2 n m => k b d _ (s.trans s2) (s.free n) (s.free m)

theorem made_free {H : Hp} {b dx d : Addr} {o1 o2 : HO} (n : (upd (upd H dx o1) b o2) d = none) : H d = none := by
  by_cases e : d = b
  · subst e; rw [upd_same] at n; cases n
  · rw [upd_ne e] at n
    by_cases e2 : d = dx
    · subst e2; rw [upd_same] at n; cases n
    · rw [upd_ne e2] at n; exact n
/-- the coordinate that runs from a hand's first side to its last -/
def sd (h : Int) (c : Cell) : Int := if h = 1 then c.2 else c.1
theorem at_sd {h : Int} (hh : Hand h) (a b : Int) : atI [V.int a, V.int b] (2 - h) = some (V.int (sd h (a, b))) := by
  rcases hh with rfl | rfl <;> rfl
theorem fst_sd {h : Int} {c : Cell} : Fst h c ↔ sd h c = 0 := by unfold Fst sd; split <;> exact Iff.rfl
theorem lst_sd {R C h : Int} {c : Cell} : Lst R C h c ↔ sd h c = sd h (R, C) - 1 := by unfold Lst sd; split <;> exact Iff.rfl
/-- open cells are found, up to row i, column j -/
structure Opening (R C : Int) (ov : Own) (h : Int) (i j : Nat) (cs : List Cell) : Prop where
  nd : cs.Nodup
  mem : ∀ c, c ∈ cs ↔ B R C c ∧ (Owns ov h c ∨ (lk ov c = none ∧ (c.1 < i ∨ (c.1 = i ∧ c.2 < j))))
theorem Opening.free {R C : Int} {ov : Own} {h : Int} {i j : Nat} {cs : List Cell} (f : Opening R C ov h i j cs) (n : lk ov ((i : Int), (j : Int)) = none) : ((i : Int), (j : Int)) ∉ cs := fun m => by
  rcases ((f.mem _).mp m).2 with e | e
  · unfold Owns at e; rw [n] at e; cases e
  · have := e.2; dsimp only at this; omega
theorem Opening.add {R C : Int} {ov : Own} {h : Int} {i j : Nat} {cs : List Cell} (f : Opening R C ov h i j cs) (hi : (i : Int) < R) (hj : (j : Int) < C) (n : lk ov ((i : Int), (j : Int)) = none) : Opening R C ov h i (j + 1) (cs ++ [((i : Int), (j : Int))]) := by
  refine ⟨nd_snoc f.nd (f.free n), fun c => ?_⟩
  rw [List.mem_append, List.mem_singleton, f.mem]
  constructor
  · rintro (⟨b, e | ⟨e, e2⟩⟩ | e)
    · exact ⟨b, .inl e⟩
    · exact ⟨b, .inr ⟨e, by omega⟩⟩
    · subst e; exact ⟨⟨by dsimp only; omega, hi, by dsimp only; omega, hj⟩, .inr ⟨n, by dsimp only; omega⟩⟩
  · rintro ⟨b, e | ⟨e, e2⟩⟩
    · exact .inl ⟨b, .inl e⟩
    · by_cases q : c = ((i : Int), (j : Int))
      · exact .inr q
      · refine .inl ⟨b, .inr ⟨e, ?_⟩⟩
        have q2 : ¬ (c.1 = i ∧ c.2 = j) := fun z => q (Prod.ext z.1 z.2)
        omega
theorem Opening.skip {R C : Int} {ov : Own} {h : Int} {i j : Nat} {cs : List Cell} (f : Opening R C ov h i j cs) (n : lk ov ((i : Int), (j : Int)) ≠ none) : Opening R C ov h i (j + 1) cs := by
  refine ⟨f.nd, fun c => ?_⟩
  rw [f.mem]
  constructor
  · rintro ⟨b, e | ⟨e, e2⟩⟩
    · exact ⟨b, .inl e⟩
    · exact ⟨b, .inr ⟨e, by omega⟩⟩
  · rintro ⟨b, e | ⟨e, e2⟩⟩
    · exact ⟨b, .inl e⟩
    · refine ⟨b, .inr ⟨e, ?_⟩⟩
      have q2 : ¬ (c.1 = i ∧ c.2 = j) := fun z => n (by rw [← show c = ((i : Int), (j : Int)) from Prod.ext z.1 z.2]; exact e)
      omega
theorem Opening.row {R C : Int} {ov : Own} {h : Int} {i j : Nat} {cs : List Cell} (f : Opening R C ov h i j cs) (hj : C ≤ j) : Opening R C ov h (i + 1) 0 cs := by
  refine ⟨f.nd, fun c => ?_⟩
  rw [f.mem]
  unfold B
  constructor
  · rintro ⟨b, e | ⟨e, e2⟩⟩
    · exact ⟨b, .inl e⟩
    · exact ⟨b, .inr ⟨e, by omega⟩⟩
  · rintro ⟨b, e | ⟨e, e2⟩⟩
    · exact ⟨b, .inl e⟩
    · exact ⟨b, .inr ⟨e, by omega⟩⟩
theorem Opening.ends {R C : Int} {ov : Own} {h : Int} {i : Nat} {cs : List Cell} (f : Opening R C ov h i 0 cs) (hi : R ≤ i) (c : Cell) : c ∈ cs ↔ B R C c ∧ (Owns ov h c ∨ lk ov c = none) := by
  rw [f.mem]
  unfold B
  constructor
  · rintro ⟨b, e | ⟨e, e2⟩⟩
    · exact ⟨b, .inl e⟩
    · exact ⟨b, .inr e⟩
  · rintro ⟨b, e | e⟩
    · exact ⟨b, .inl e⟩
    · exact ⟨b, .inr ⟨e, by omega⟩⟩
theorem perm_len {α : Type} [DecidableEq α] {l m : List α} (h1 : l.Nodup) (h2 : m.Nodup) (h : ∀ x, x ∈ l ↔ x ∈ m) : l.length = m.length :=
  Nat.le_antisymm (pigeon l m h1 fun x z => (h x).mp z) (pigeon m l h2 fun x z => (h x).mpr z)
theorem filter_split {α : Type} (p : α → Bool) : ∀ l : List α, (l.filter p).length + (l.filter fun x => !p x).length = l.length
  | [] => rfl
  | a :: l => by
    have := filter_split p l
    rw [List.filter_cons, List.filter_cons, List.length_cons]
    cases p a <;> simp <;> omega
/-- as many cells are empty as are not owned -/
theorem count_empt {R C : Int} {kv : Own} (h : BOk R C kv) : kv.length + (empt R C kv).length = (cells R C).length := by
  have e := filter_split (fun c => (lk kv c).isSome) (cells R C)
  have e1 : ((cells R C).filter fun c => (lk kv c).isSome).length = (kv.map (·.1)).length := by
    refine perm_len ((cells_nodup R C).sublist List.filter_sublist) h.nd fun c => ?_
    rw [List.mem_filter, mem_cells]
    constructor
    · rintro ⟨_, z⟩
      by_cases m : c ∈ kv.map (·.1)
      · exact m
      · rw [lk_none.mpr m] at z; cases z
    · intro m
      obtain ⟨o, ho⟩ := lk_of_mem m
      exact ⟨(h.ok _ (lk_some ho)).1, by rw [ho]; rfl⟩
  have e2 : (fun c => !(lk kv c).isSome) = fun c => (lk kv c).isNone := by
    funext c
    cases lk kv c <;> rfl
  rw [e1, e2, List.length_map] at e
  exact e
/-- the cell that a value stands for -/
def cellOf (H : Hp) (v : V) : Cell := match v with
  | .ref t => match H t with
    | some (.tup [.int a, .int b]) => (a, b)
    | _ => (0, 0)
  | _ => (0, 0)
theorem cellOf_eq {H : Hp} {v : V} {c : Cell} (h : PairAt H v c) : cellOf H v = c := by
  obtain ⟨t, rfl, ht⟩ := h
  unfold cellOf
  simp only [ht]
theorem cells_of_map {H : Hp} : ∀ {xs : List V} {cs : List Cell}, Cells H xs cs → xs.map (cellOf H) = cs
  | _, _, .nil => rfl
  | _, _, .cons h t => by rw [List.map_cons, cellOf_eq h, cells_of_map t]
theorem cells_back {H : Hp} : ∀ {ys : List V}, (∀ y ∈ ys, ∃ c, PairAt H y c) → Cells H ys (ys.map (cellOf H))
  | [], _ => .nil
  | y :: ys, h => by
    obtain ⟨c, hc⟩ := h y (List.mem_cons_self ..)
    exact .cons (by rw [cellOf_eq hc]; exact hc) (cells_back fun z m => h z (List.mem_cons_of_mem _ m))
theorem cells_mem {H : Hp} {xs : List V} {cs : List Cell} (h : Cells H xs cs) {x : V} (m : x ∈ xs) : ∃ c, PairAt H x c := by
  obtain ⟨i, hi, e⟩ := List.mem_iff_getElem.mp m
  obtain ⟨c, _, p⟩ := paired_get h (List.getElem?_eq_some_iff.mpr ⟨hi, e⟩)
  exact ⟨c, p⟩
/-- what sorted wants of a list of cells -/
theorem sort_ok {H : Hp} {xs : List V} {cs : List Cell} (h : Cells H xs cs) : ∀ x ∈ xs, ∃ t, x = V.ref t ∧ H t = some (.tup [.int (cellOf H x).1, .int (cellOf H x).2]) := fun x m => by
  obtain ⟨c, hc⟩ := cells_mem h m
  rw [cellOf_eq hc]
  exact hc
theorem cells_perm {H : Hp} {xs ys : List V} {cs : List Cell} (h : Cells H xs cs) (p : ys.Perm xs) : Cells H ys (ys.map (cellOf H)) ∧ (ys.map (cellOf H)).Perm cs :=
  ⟨cells_back fun y m => cells_mem h (p.mem_iff.mp m), by rw [← cells_of_map h]; exact p.map _⟩
theorem paired_erase {α β : Type} {F : α → β → Prop} : ∀ {l : List α} {m : List β} {i : Nat}, Paired F l m → Paired F (l.eraseIdx i) (m.eraseIdx i)
  | _, _, _, .nil => .nil
  | _, _, 0, .cons _ t => t
  | _, _, i + 1, .cons f t => .cons f (paired_erase (i := i) t)
theorem perm_erase {α : Type} : ∀ {l : List α} {i : Nat} {x : α}, l[i]? = some x → l.Perm (x :: l.eraseIdx i)
  | [], _, _, h => by simp at h
  | a :: l, 0, x, h => by simp at h; subst h; exact .refl _
  | a :: l, i + 1, x, h => by
    simp at h
    exact ((perm_erase h).cons a).trans (.swap ..)
theorem drop_keys {α : Type} (kv : List (Cell × α)) (a : Cell) : (drop kv a).map (·.1) = (kv.map (·.1)).filter fun c => decide (c ≠ a) := by
  unfold drop
  rw [List.filter_map]
  rfl
theorem filter_ne {a : Cell} : ∀ {l : List Cell}, a ∉ l → l.filter (fun c => decide (c ≠ a)) = l := fun {l} h => List.filter_eq_self.mpr fun c m => decide_eq_true fun e => h (by rw [← e]; exact m)
/-- one key less -/
theorem drop_perm {kv : Own} {a : Cell} {ds : List Cell} (nd : (kv.map (·.1)).Nodup) (p : (a :: ds).Perm (kv.map (·.1))) : ds.Perm ((drop kv a).map (·.1)) := by
  rw [drop_keys]
  have q := p.filter fun c => decide (c ≠ a)
  have nd2 := (p.nodup_iff.mpr nd)
  rw [List.nodup_cons] at nd2
  rw [List.filter_cons_of_neg (by simp), filter_ne nd2.1] at q
  exact q
theorem seq_ix {i : Int} {n : Nat} (h0 : 0 ≤ i) (h1 : i < n) : seqIndex? i n = some i.toNat := by
  have e : (if i < 0 then i + (n : Int) else i) = i := if_neg (by omega)
  unfold seqIndex?
  dsimp only
  rw [e, if_pos (by simp; omega)]
theorem pick5 (a b c d e i : Int) : ∃ x, atI [V.int a, V.int b, V.int c, V.int d, V.int e] (i % 5) = some (V.int x) ∧ (x = a ∨ x = b ∨ x = c ∨ x = d ∨ x = e) := by
  have h : i % 5 = 0 ∨ i % 5 = 1 ∨ i % 5 = 2 ∨ i % 5 = 3 ∨ i % 5 = 4 := by omega
  rcases h with h | h | h | h | h <;> rw [h]
  · exact ⟨a, rfl, .inl rfl⟩
  · exact ⟨b, rfl, .inr (.inl rfl)⟩
  · exact ⟨c, rfl, .inr (.inr (.inl rfl))⟩
  · exact ⟨d, rfl, .inr (.inr (.inr (.inl rfl)))⟩
  · exact ⟨e, rfl, .inr (.inr (.inr (.inr rfl)))⟩

/-! ### promises -/
def sp_law_owners (K : PySem.W.Frag) (_ : Ad) : Sp := fun vs H Q _ => ∃ (a : Addr) (ns : List Int) (f R C : Int) (full : Bool), vs = [.ref a, .int f, .int R, .int C, .bl full] ∧ SqL K H a (ns.map V.int) ∧ 0 ≤ f ∧ Size R C ∧ NewOv H R C full Q
def sp_law_owners4 (K : PySem.W.Frag) (_ : Ad) : Sp := fun vs H Q _ => ∃ (a : Addr) (ns : List Int) (f R C : Int), vs = [.ref a, .int f, .int R, .int C] ∧ SqL K H a (ns.map V.int) ∧ 0 ≤ f ∧ Size R C ∧ NewOv H R C false Q
def sp_law_nearly_full (K : PySem.W.Frag) (_ : Ad) : Sp := fun vs H Q _ => ∃ (a : Addr) (ns : List Int) (f R C n : Int), vs = [.ref a, .int f, .int R, .int C, .int n] ∧ SqL K H a (ns.map V.int) ∧ 0 ≤ f ∧ Size R C ∧ 0 ≤ n ∧
  ∀ l ov H', Same H H' → H l = none → OvAt H' l ov → BOk R C ov → (empt R C ov).length = min n.toNat (cells R C).length → Q (.ref l) H'
def sp_law_board_of (_ : PySem.W.Frag) (D : Ad) : Sp := fun vs H Q _ => ∃ (R C : Int) (o : Addr) (ov : Own), vs = [.int R, .int C, .ref o] ∧ OvAt H o ov ∧ BOk R C ov ∧ NewBoard D H R C ov Q
def sp_law_same (_ : PySem.W.Frag) (D : Ad) : Sp := fun vs H Q _ => ∃ b d R C kv o ov, vs = [.ref b, .int R, .int C, .ref o] ∧ BoardAt D H b d R C kv ∧ OvAt H o ov ∧ (∀ c, B R C c → ow kv c = ow ov c) ∧ Keep H (.bl true) Q
def sp_law_owned (_ : PySem.W.Frag) (_ : Ad) : Sp := fun vs H Q _ => ∃ (o : Addr) (ov : Own) (h R C : Int), vs = [.ref o, .int h] ∧ OvAt H o ov ∧ BOk R C ov ∧ NewAl H R C (Owns ov h) Q
def sp_law_open (_ : PySem.W.Frag) (_ : Ad) : Sp := fun vs H Q _ => ∃ (R C : Int) (o : Addr) (ov : Own) (h : Int), vs = [.int R, .int C, .ref o, .int h] ∧ OvAt H o ov ∧ BOk R C ov ∧ NewAl H R C (fun c => Owns ov h c ∨ lk ov c = none) Q
def sp_law_joined (_ : PySem.W.Frag) (_ : Ad) : Sp := fun vs H Q _ => ∃ (R C h : Int) (al : Addr) (cs : List Cell), vs = [.int R, .int C, .int h, .ref al] ∧ Al H al cs ∧ cs.Nodup ∧ (∀ c ∈ cs, B R C c) ∧ Size R C ∧ Hand h ∧
  (Joined R C h (fun c => c ∈ cs) → Keep H (.bl true) Q) ∧ (¬ Joined R C h (fun c => c ∈ cs) → Keep H (.bl false) Q)
def sp_law_sizes (K : PySem.W.Frag) (_ : Ad) : Sp := fun vs H Q _ => ∃ (a : Addr) (ns : List Int), vs = [.ref a, .int 7] ∧ SqL K H a (ns.map V.int) ∧ ∀ p R C, Size R C → H p = none → Q (.ref p) (upd H p (.tup [.int R, .int C]))
/-- the hand to move has a good cell, n + 1 cells empty -/
def Good (R C : Int) : Nat → Int → Own → Prop
  | 0, h, kv => ∃ c, B R C c ∧ lk kv c = none ∧ Joined R C h (Owns (kv ++ [(c, h)]) h)
  | n + 1, h, kv => ∃ c, B R C c ∧ lk kv c = none ∧ ¬ Good R C n (3 - h) (kv ++ [(c, h)])
/-- c is a good cell -/
def GoodAt (R C : Int) (n : Nat) (h : Int) (kv : Own) (c : Cell) : Prop := B R C c ∧ lk kv c = none ∧ match n with
  | 0 => Joined R C h (Owns (kv ++ [(c, h)]) h)
  | n + 1 => ¬ Good R C n (3 - h) (kv ++ [(c, h)])
theorem good_iff {R C : Int} {n : Nat} {h : Int} {kv : Own} : Good R C n h kv ↔ ∃ c, GoodAt R C n h kv c := by
  cases n with
  | zero => exact Iff.rfl
  | succ n => exact Iff.rfl
/-- a new pair, or None -/
structure CellOr (H : Hp) (p : Cell → Prop) (Q : VK) : Prop where
  yes : ∀ c, p c → ∀ v H', Same H H' → PairAt H' v c → Q v H'
  no : (¬ ∃ c, p c) → Keep H .non Q
def sp_good (_ : PySem.W.Frag) (D : Ad) : Sp := fun vs H Q E => ∃ b d R C kv h, vs = [.ref b, .int h] ∧ BoardAt D H b d R C kv ∧ (¬ Hand h → E (.ref D.eNoHand) none H) ∧ (Hand h → ∃ n, (empt R C kv).length = n + 1 ∧ n ≤ 4 ∧ CellOr H (GoodAt R C n h kv) Q)
def sp_law_no_hand (_ : PySem.W.Frag) (D : Ad) : Sp := fun vs H Q _ => ∃ b d R C kv h, vs = [.ref b, .int h] ∧ BoardAt D H b d R C kv ∧ ¬ Hand h ∧ Keep H (.bl true) Q
def sp_law_bad_hand (_ : PySem.W.Frag) (_ : Ad) : Sp := fun vs H Q _ => ∃ i : Int, vs = [.int i] ∧ ∀ h, ¬ Hand h → Keep H (.int h) Q
def sp_law_is_chain (_ : PySem.W.Frag) (_ : Ad) : Sp := fun vs H Q _ => ∃ (l : Addr) (us : List V) (ks : List Cell) (R C h : Int) (al : Addr) (cs : List Cell), vs = [.ref l, .int R, .int C, .int h, .ref al] ∧ H l = some (.lst us) ∧ Cells H us ks ∧ Al H al cs ∧ Size R C ∧ Hand h ∧
  IsChain R C h (fun c => c ∈ cs) ks ∧ Keep H (.bl true) Q
end SC
namespace SC
open PySem PyProof.Rows L2

/-! ### deeds on a board -/
/-- which of the refusals -/
def mks (k : Int) : List Bool := [decide (k = 0), decide (k = 1), decide (k = 2), decide (k = 3), false, false]
/-- a deed: what it tells, its marks, and the cells behind it -/
def deed (R C : Int) (kv : Own) (kind : Int) (c : Cell) (h : Int) : Option Int × List Bool × Own :=
  if ¬ B R C c then (none, mks 0, kv) else
  if kind = 0 then (if lk kv c = none then (none, mks 3, kv) else (none, [], drop kv c)) else
  if kind = 1 then (some (ow kv c), [], kv) else
  if ¬ Hand h then (none, mks 1, kv) else
  if lk kv c ≠ none then (none, mks 2, kv) else (none, [], kv ++ [(c, h)])
theorem deed_out {R C : Int} {kv : Own} {kind : Int} {c : Cell} {h : Int} (b : ¬ B R C c) : deed R C kv kind c h = (none, mks 0, kv) := by unfold deed; rw [if_pos b]
theorem deed_lift_no {R C : Int} {kv : Own} {kind : Int} {c : Cell} {h : Int} (b : B R C c) (k : kind = 0) (n : lk kv c = none) : deed R C kv kind c h = (none, mks 3, kv) := by unfold deed; rw [if_neg (fun z => z b), if_pos k, if_pos n]
theorem deed_lift {R C : Int} {kv : Own} {kind : Int} {c : Cell} {h : Int} (b : B R C c) (k : kind = 0) (n : lk kv c ≠ none) : deed R C kv kind c h = (none, [], drop kv c) := by unfold deed; rw [if_neg (fun z => z b), if_pos k, if_neg n]
theorem deed_own {R C : Int} {kv : Own} {kind : Int} {c : Cell} {h : Int} (b : B R C c) (k : kind ≠ 0) (k1 : kind = 1) : deed R C kv kind c h = (some (ow kv c), [], kv) := by unfold deed; rw [if_neg (fun z => z b), if_neg k, if_pos k1]
theorem deed_hand {R C : Int} {kv : Own} {kind : Int} {c : Cell} {h : Int} (b : B R C c) (k : kind ≠ 0) (k1 : kind ≠ 1) (n : ¬ Hand h) : deed R C kv kind c h = (none, mks 1, kv) := by unfold deed; rw [if_neg (fun z => z b), if_neg k, if_neg k1, if_pos n]
theorem deed_taken {R C : Int} {kv : Own} {kind : Int} {c : Cell} {h : Int} (b : B R C c) (k : kind ≠ 0) (k1 : kind ≠ 1) (n : Hand h) (t : lk kv c ≠ none) : deed R C kv kind c h = (none, mks 2, kv) := by unfold deed; rw [if_neg (fun z => z b), if_neg k, if_neg k1, if_neg (fun z => z n), if_pos t]
theorem deed_put {R C : Int} {kv : Own} {kind : Int} {c : Cell} {h : Int} (b : B R C c) (k : kind ≠ 0) (k1 : kind ≠ 1) (n : Hand h) (t : lk kv c = none) : deed R C kv kind c h = (none, [], kv ++ [(c, h)]) := by unfold deed; rw [if_neg (fun z => z b), if_neg k, if_neg k1, if_neg (fun z => z n), if_neg (fun z => z t)]
def valO : Option Int → V
  | none => .non
  | some i => .int i
/-- at p: a pair of a value and a list of marks -/
def Res (H : Hp) (p : Addr) (v : V) (bs : List Bool) : Prop := ∃ m, H p = some (.tup [v, .ref m]) ∧ H m = some (.lst (bs.map V.bl))
theorem Res.same {H H' : Hp} {p : Addr} {v : V} {bs : List Bool} (r : Res H p v bs) (s : Same H H') : Res H' p v bs := by
  obtain ⟨m, h1, h2⟩ := r
  exact ⟨m, s _ _ h1, s _ _ h2⟩
/-- all stays but what stands at d -/
def But (d : Addr) (H H' : Hp) : Prop := ∀ x u, x ≠ d → H x = some u → H' x = some u
theorem But.of {d : Addr} {H H' : Hp} (s : Same H H') : But d H H' := fun _ _ _ e => s _ _ e
theorem But.set {d : Addr} {H H' : Hp} {o : HO} (s : But d H H') : But d H (upd H' d o) := fun x u n e => by rw [upd_ne n]; exact s x u n e
theorem But.trans {d : Addr} {H H' H2 : Hp} (a : But d H H') (b : But d H' H2) : But d H H2 := fun x u n e => b x u n (a x u n e)
theorem Res.but {d : Addr} {H H' : Hp} {p : Addr} {v : V} {bs : List Bool} {x : List (List Key × V)} (r : Res H p v bs) (s : But d H H') (hd : H d = some (.dT x)) : Res H' p v bs := by
  obtain ⟨m, h1, h2⟩ := r
  exact ⟨m, s _ _ (ne_of h1 hd fun z => nomatch z) h1, s _ _ (ne_of h2 hd fun z => nomatch z) h2⟩
theorem PairAt.but {d : Addr} {H H' : Hp} {v : V} {c : Cell} {x : List (List Key × V)} (r : PairAt H v c) (s : But d H H') (hd : H d = some (.dT x)) : PairAt H' v c := by
  obtain ⟨t, e, h1⟩ := r
  exact ⟨t, e, s _ _ (ne_of h1 hd fun z => nomatch z) h1⟩
theorem BoardAt.but {D : Ad} {o : Addr} {H H' : Hp} {b d : Addr} {R C : Int} {kv : Own} {x : List (List Key × V)} (S : BoardAt D H b d R C kv) (s : But o H H') (ho : H o = some (.dT x)) (ne : d ≠ o) : BoardAt D H' b d R C kv := by
  obtain ⟨⟨dx, h1⟩, h2, h3⟩ := S
  exact ⟨⟨dx, s _ _ (ne_of h1 ho fun z => nomatch z) h1⟩, s _ _ ne h2, h3⟩
def sp_law_mark (_ : PySem.W.Frag) (_ : Ad) : Sp := fun vs H Q _ => ∃ k, vs = [.int k] ∧ ∀ p H', Same H H' → Res H' p .non (mks k) → Q (.ref p) H'
def sp_law_due (_ : PySem.W.Frag) (_ : Ad) : Sp := fun vs H Q _ => ∃ (R C : Int) (o : Addr) (kv : Own) (kind : Int) (v : V) (c : Cell) (h : Int), vs = [.int R, .int C, .ref o, .int kind, v, .int h] ∧ PairAt H v c ∧ OvAt H o kv ∧ BOk R C kv ∧
  ∀ p H', But o H H' → OvAt H' o (deed R C kv kind c h).2.2 → Res H' p (valO (deed R C kv kind c h).1) (deed R C kv kind c h).2.1 → Q (.ref p) H'
def sp_law_did (_ : PySem.W.Frag) (D : Ad) : Sp := fun vs H Q _ => ∃ (b d : Addr) (R C : Int) (kv : Own) (kind : Int) (v : V) (c : Cell) (h : Int), vs = [.ref b, .int kind, v, .int h] ∧ PairAt H v c ∧ BoardAt D H b d R C kv ∧
  ∀ p H', But d H H' → BoardAt D H' b d R C (deed R C kv kind c h).2.2 → Res H' p (valO (deed R C kv kind c h).1) (deed R C kv kind c h).2.1 → Q (.ref p) H'
def sp_law_empties_right (_ : PySem.W.Frag) (D : Ad) : Sp := fun vs H Q _ => ∃ b d R C kv o, vs = [.ref b, .int R, .int C, .ref o] ∧ BoardAt D H b d R C kv ∧ OvAt H o kv ∧ Keep H (.bl true) Q
def sp_law_no_board (_ : PySem.W.Frag) (_ : Ad) : Sp := fun vs H Q _ => ∃ r c : Int, vs = [.int r, .int c] ∧ ¬ Size r c ∧ Keep H (.bl true) Q
theorem deed_ok {R C : Int} {kv : Own} (k : BOk R C kv) (kind : Int) (c : Cell) (h : Int) : BOk R C (deed R C kv kind c h).2.2 := by
  unfold deed
  split
  · exact k
  · rename_i b
    have b := Classical.not_not.mp b
    split
    · split
      · exact k
      · exact k.lift c
    · split
      · exact k
      · split
        · exact k
        · rename_i n
          split
          · exact k
          · rename_i t
            exact k.put b (Classical.not_not.mp n) (Classical.not_not.mp t)
theorem pick4 (a b c d i : Int) : ∃ x, atI [V.int a, V.int b, V.int c, V.int d] (i % 4) = some (V.int x) ∧ (x = a ∨ x = b ∨ x = c ∨ x = d) := by
  have h : i % 4 = 0 ∨ i % 4 = 1 ∨ i % 4 = 2 ∨ i % 4 = 3 := by omega
  rcases h with h | h | h | h <;> rw [h]
  · exact ⟨a, rfl, .inl rfl⟩
  · exact ⟨b, rfl, .inr (.inl rfl)⟩
  · exact ⟨c, rfl, .inr (.inr (.inl rfl))⟩
  · exact ⟨d, rfl, .inr (.inr (.inr rfl))⟩
theorem pick2v (a b : V) (i : Int) : ∃ x, atI [a, b] (i % 2) = some x ∧ (x = a ∨ x = b) := by
  have h : i % 2 = 0 ∨ i % 2 = 1 := by omega
  rcases h with h | h <;> rw [h]
  · exact ⟨a, rfl, .inl rfl⟩
  · exact ⟨b, rfl, .inr rfl⟩
/-- two boards and the law's own dicts for them -/
structure Two (D : Ad) (H : Hp) (R C : Int) (b0 d0 o0 b1 d1 o1 : Addr) (kv0 kv1 : Own) : Prop where
  s0 : BoardAt D H b0 d0 R C kv0
  p0 : OvAt H o0 kv0
  s1 : BoardAt D H b1 d1 R C kv1
  p1 : OvAt H o1 kv1
theorem Two.same {D : Ad} {H H' : Hp} {R C : Int} {b0 d0 o0 b1 d1 o1 : Addr} {kv0 kv1 : Own} (t : Two D H R C b0 d0 o0 b1 d1 o1 kv0 kv1) (s : Same H H') : Two D H' R C b0 d0 o0 b1 d1 o1 kv0 kv1 := ⟨t.s0.same s, t.p0.same s, t.s1.same s, t.p1.same s⟩
theorem Two.swap {D : Ad} {H : Hp} {R C : Int} {b0 d0 o0 b1 d1 o1 : Addr} {kv0 kv1 : Own} (t : Two D H R C b0 d0 o0 b1 d1 o1 kv0 kv1) : Two D H R C b1 d1 o1 b0 d0 o0 kv1 kv0 := ⟨t.s1, t.p1, t.s0, t.p0⟩
end SC
namespace SC
open PySem L2
def top (i : Nat) : Stmt := PySem.Challenge.pw_sidechain_k01_cells_put_and_lifted.main.body.getD i (.Pass ⟨0, 0, 0, 0⟩)
def ad0 : Ad := ⟨0, 0, 0, 0, 0, 0, 0, 0, 0, 0⟩
abbrev s_see_hand : Stmt := (top 10)
theorem sc_see_hand : FnScope ["hand"] ["hand"] (defScope s_see_hand) := ⟨rfl, rfl, rfl, by decide +kernel, rfl, by decide +kernel, by decide +kernel⟩
theorem bd_see_hand {K : PySem.W.Frag} {f : Addr} {fd : FuncData} (F : Fun K "see_hand" "see_hand" s_see_hand f fd) : Binds K fd ["hand"] [] := F.binds (ps := ["hand"]) fun _ _ _ _ _ _ us hl => match us, hl with | [_], _ => rfl
abbrev s_B_init : Stmt := (inClass (top 11) 0)
theorem sc_B_init : FnScope ["self", "rows", "columns"] ["self", "rows", "columns"] (defScope s_B_init) := ⟨rfl, rfl, rfl, by decide +kernel, rfl, by decide +kernel, by decide +kernel⟩
theorem bd_B_init {K : PySem.W.Frag} {f : Addr} {fd : FuncData} (F : Fun K "__init__" "Board.__init__" s_B_init f fd) : Binds K fd ["self", "rows", "columns"] [] := F.binds (ps := ["self", "rows", "columns"]) fun _ _ _ _ _ _ us hl => match us, hl with | [_, _, _], _ => rfl
abbrev s_B_rows : Stmt := (inClass (top 11) 1)
theorem sc_B_rows : FnScope ["self"] ["self"] (defScope s_B_rows) := ⟨rfl, rfl, rfl, by decide +kernel, rfl, by decide +kernel, by decide +kernel⟩
theorem bd_B_rows {K : PySem.W.Frag} {f : Addr} {fd : FuncData} (F : Fun K "rows" "Board.rows" s_B_rows f fd) : Binds K fd ["self"] [] := F.binds (ps := ["self"]) fun _ _ _ _ _ _ us hl => match us, hl with | [_], _ => rfl
abbrev s_B_columns : Stmt := (inClass (top 11) 2)
theorem sc_B_columns : FnScope ["self"] ["self"] (defScope s_B_columns) := ⟨rfl, rfl, rfl, by decide +kernel, rfl, by decide +kernel, by decide +kernel⟩
theorem bd_B_columns {K : PySem.W.Frag} {f : Addr} {fd : FuncData} (F : Fun K "columns" "Board.columns" s_B_columns f fd) : Binds K fd ["self"] [] := F.binds (ps := ["self"]) fun _ _ _ _ _ _ us hl => match us, hl with | [_], _ => rfl
abbrev s_B_has : Stmt := (inClass (top 11) 3)
theorem sc_B_has : FnScope ["self", "cell"] ["self", "cell"] (defScope s_B_has) := ⟨rfl, rfl, rfl, by decide +kernel, rfl, by decide +kernel, by decide +kernel⟩
theorem bd_B_has {K : PySem.W.Frag} {f : Addr} {fd : FuncData} (F : Fun K "has" "Board.has" s_B_has f fd) : Binds K fd ["self", "cell"] [] := F.binds (ps := ["self", "cell"]) fun _ _ _ _ _ _ us hl => match us, hl with | [_, _], _ => rfl
abbrev s_B_see_cell : Stmt := (inClass (top 11) 4)
theorem sc_B_see_cell : FnScope ["self", "cell"] ["self", "cell"] (defScope s_B_see_cell) := ⟨rfl, rfl, rfl, by decide +kernel, rfl, by decide +kernel, by decide +kernel⟩
theorem bd_B_see_cell {K : PySem.W.Frag} {f : Addr} {fd : FuncData} (F : Fun K "see_cell" "Board.see_cell" s_B_see_cell f fd) : Binds K fd ["self", "cell"] [] := F.binds (ps := ["self", "cell"]) fun _ _ _ _ _ _ us hl => match us, hl with | [_, _], _ => rfl
abbrev s_B_put : Stmt := (inClass (top 11) 5)
theorem sc_B_put : FnScope ["self", "cell", "hand"] ["self", "cell", "hand"] (defScope s_B_put) := ⟨rfl, rfl, rfl, by decide +kernel, rfl, by decide +kernel, by decide +kernel⟩
theorem bd_B_put {K : PySem.W.Frag} {f : Addr} {fd : FuncData} (F : Fun K "put" "Board.put" s_B_put f fd) : Binds K fd ["self", "cell", "hand"] [] := F.binds (ps := ["self", "cell", "hand"]) fun _ _ _ _ _ _ us hl => match us, hl with | [_, _, _], _ => rfl
abbrev s_B_lift : Stmt := (inClass (top 11) 6)
theorem sc_B_lift : FnScope ["self", "cell"] ["self", "cell"] (defScope s_B_lift) := ⟨rfl, rfl, rfl, by decide +kernel, rfl, by decide +kernel, by decide +kernel⟩
theorem bd_B_lift {K : PySem.W.Frag} {f : Addr} {fd : FuncData} (F : Fun K "lift" "Board.lift" s_B_lift f fd) : Binds K fd ["self", "cell"] [] := F.binds (ps := ["self", "cell"]) fun _ _ _ _ _ _ us hl => match us, hl with | [_, _], _ => rfl
abbrev s_B_owner : Stmt := (inClass (top 11) 7)
theorem sc_B_owner : FnScope ["self", "cell"] ["self", "cell"] (defScope s_B_owner) := ⟨rfl, rfl, rfl, by decide +kernel, rfl, by decide +kernel, by decide +kernel⟩
theorem bd_B_owner {K : PySem.W.Frag} {f : Addr} {fd : FuncData} (F : Fun K "owner" "Board.owner" s_B_owner f fd) : Binds K fd ["self", "cell"] [] := F.binds (ps := ["self", "cell"]) fun _ _ _ _ _ _ us hl => match us, hl with | [_, _], _ => rfl
abbrev s_B_empties : Stmt := (inClass (top 11) 9)
theorem sc_B_empties : FnScope ["self", "cell"] ["self"] (defScope s_B_empties) := ⟨rfl, rfl, rfl, by decide +kernel, rfl, by decide +kernel, by decide +kernel⟩
theorem bd_B_empties {K : PySem.W.Frag} {f : Addr} {fd : FuncData} (F : Fun K "empties" "Board.empties" s_B_empties f fd) : Binds K fd ["self"] [] := F.binds (ps := ["self"]) fun _ _ _ _ _ _ us hl => match us, hl with | [_], _ => rfl
abbrev s_cells_of : Stmt := (top 12)
theorem sc_cells_of : FnScope ["board", "found", "row", "column"] ["board"] (defScope s_cells_of) := ⟨rfl, rfl, rfl, by decide +kernel, rfl, by decide +kernel, by decide +kernel⟩
theorem bd_cells_of {K : PySem.W.Frag} {f : Addr} {fd : FuncData} (F : Fun K "cells_of" "cells_of" s_cells_of f fd) : Binds K fd ["board"] [] := F.binds (ps := ["board"]) fun _ _ _ _ _ _ us hl => match us, hl with | [_], _ => rfl
abbrev s_law_cell_at : Stmt := (top 14)
theorem sc_law_cell_at : FnScope ["script", "k"] ["script", "k"] (defScope s_law_cell_at) := ⟨rfl, rfl, rfl, by decide +kernel, rfl, by decide +kernel, by decide +kernel⟩
theorem bd_law_cell_at {K : PySem.W.Frag} {f : Addr} {fd : FuncData} (F : Fun K "_law_cell_at" "_law_cell_at" s_law_cell_at f fd) : Binds K fd ["script", "k"] [] := F.binds (ps := ["script", "k"]) fun _ _ _ _ _ _ us hl => match us, hl with | [_, _], _ => rfl
abbrev s_law_whole : Stmt := (top 15)
theorem sc_law_whole : FnScope ["found"] ["found"] (defScope s_law_whole) := ⟨rfl, rfl, rfl, by decide +kernel, rfl, by decide +kernel, by decide +kernel⟩
theorem bd_law_whole {K : PySem.W.Frag} {f : Addr} {fd : FuncData} (F : Fun K "_law_whole" "_law_whole" s_law_whole f fd) : Binds K fd ["found"] [] := F.binds (ps := ["found"]) fun _ _ _ _ _ _ us hl => match us, hl with | [_], _ => rfl
abbrev s_law_is_cells : Stmt := (top 16)
theorem sc_law_is_cells : FnScope ["found", "rows", "columns", "cell"] ["found", "rows", "columns"] (defScope s_law_is_cells) := ⟨rfl, rfl, rfl, by decide +kernel, rfl, by decide +kernel, by decide +kernel⟩
theorem bd_law_is_cells {K : PySem.W.Frag} {f : Addr} {fd : FuncData} (F : Fun K "_law_is_cells" "_law_is_cells" s_law_is_cells f fd) : Binds K fd ["found", "rows", "columns"] [] := F.binds (ps := ["found", "rows", "columns"]) fun _ _ _ _ _ _ us hl => match us, hl with | [_, _, _], _ => rfl
abbrev s_law_did : Stmt := (top 17)
theorem sc_law_did : FnScope ["board", "kind", "cell", "hand", "found", "marks", "e"] ["board", "kind", "cell", "hand"] (defScope s_law_did) := ⟨rfl, rfl, rfl, by decide +kernel, rfl, by decide +kernel, by decide +kernel⟩
theorem bd_law_did {K : PySem.W.Frag} {f : Addr} {fd : FuncData} (F : Fun K "_law_did" "_law_did" s_law_did f fd) : Binds K fd ["board", "kind", "cell", "hand"] [] := F.binds (ps := ["board", "kind", "cell", "hand"]) fun _ _ _ _ _ _ us hl => match us, hl with | [_, _, _, _], _ => rfl
abbrev s_law_mark : Stmt := (top 18)
theorem sc_law_mark : FnScope ["k"] ["k"] (defScope s_law_mark) := ⟨rfl, rfl, rfl, by decide +kernel, rfl, by decide +kernel, by decide +kernel⟩
theorem bd_law_mark {K : PySem.W.Frag} {f : Addr} {fd : FuncData} (F : Fun K "_law_mark" "_law_mark" s_law_mark f fd) : Binds K fd ["k"] [] := F.binds (ps := ["k"]) fun _ _ _ _ _ _ us hl => match us, hl with | [_], _ => rfl
abbrev s_law_due : Stmt := (top 19)
theorem sc_law_due : FnScope ["rows", "columns", "owners", "kind", "cell", "hand"] ["rows", "columns", "owners", "kind", "cell", "hand"] (defScope s_law_due) := ⟨rfl, rfl, rfl, by decide +kernel, rfl, by decide +kernel, by decide +kernel⟩
theorem bd_law_due {K : PySem.W.Frag} {f : Addr} {fd : FuncData} (F : Fun K "_law_due" "_law_due" s_law_due f fd) : Binds K fd ["rows", "columns", "owners", "kind", "cell", "hand"] [] := F.binds (ps := ["rows", "columns", "owners", "kind", "cell", "hand"]) fun _ _ _ _ _ _ us hl => match us, hl with | [_, _, _, _, _, _], _ => rfl
abbrev s_law_empties_right : Stmt := (top 20)
theorem sc_law_empties_right : FnScope ["board", "rows", "columns", "owners", "due", "r", "c", "found"] ["board", "rows", "columns", "owners"] (defScope s_law_empties_right) := ⟨rfl, rfl, rfl, by decide +kernel, rfl, by decide +kernel, by decide +kernel⟩
theorem bd_law_empties_right {K : PySem.W.Frag} {f : Addr} {fd : FuncData} (F : Fun K "_law_empties_right" "_law_empties_right" s_law_empties_right f fd) : Binds K fd ["board", "rows", "columns", "owners"] [] := F.binds (ps := ["board", "rows", "columns", "owners"]) fun _ _ _ _ _ _ us hl => match us, hl with | [_, _, _, _], _ => rfl
abbrev s_law_no_board : Stmt := (top 21)
theorem sc_law_no_board : FnScope ["rows", "columns", "refused"] ["rows", "columns"] (defScope s_law_no_board) := ⟨rfl, rfl, rfl, by decide +kernel, rfl, by decide +kernel, by decide +kernel⟩
theorem bd_law_no_board {K : PySem.W.Frag} {f : Addr} {fd : FuncData} (F : Fun K "_law_no_board" "_law_no_board" s_law_no_board f fd) : Binds K fd ["rows", "columns"] [] := F.binds (ps := ["rows", "columns"]) fun _ _ _ _ _ _ us hl => match us, hl with | [_, _], _ => rfl
abbrev s_law : Stmt := (top 22)
theorem sc_law : FnScope ["script", "head", "rows", "columns", "far", "boards", "owners", "cell", "at", "spot", "hand", "kind", "due", "found", "k", "told"] ["script"] (defScope s_law) := ⟨rfl, rfl, rfl, by decide +kernel, rfl, by decide +kernel, by decide +kernel⟩
theorem bd_law {K : PySem.W.Frag} {f : Addr} {fd : FuncData} (F : Fun K "law" "law" s_law f fd) : Binds K fd ["script"] [] := F.binds (ps := ["script"]) fun _ _ _ _ _ _ us hl => match us, hl with | [_], _ => rfl
section
variable {P : Program} {w : World} {K : PySem.W.Frag} {mg : Str → Option Value} {base : Heap} {D : Ad}
theorem ok_see_hand {f : Addr} {fd : FuncData} (F : Fun K "see_hand" "see_hand" s_see_hand f fd) (T : Top K mg D) (x_NoHand : XC K mg "NoHand" D.eNoHand) : FnOk P w K mg base (L2.CX P w) 1 f fd ["hand"] (sp_see_hand K D) := by
  refine F.okX sc_see_hand (fun vs H Q E h => ?_) (fun cdv A outer s H vs Q E hr h => ?_)
  · obtain ⟨h0, rfl, hh⟩ := h
    rfl
  · obtain ⟨h0, rfl, hh⟩ := h
    refine ⟨_, (pss_one (ps_if (PW.pt (pw_and (pt_cmpR op_ne (pv 0) pe_int (nomark _)) (pw_and1 (pt_cmpR op_ne (pv 0) pe_int (nomark _))))) (pss_one (ps_rz x_NoHand (takes_of rfl rfl rfl rfl))) pss_nil)), ?_⟩
    obtain ⟨h1, h2⟩ := hh
    refine ⟨_, rfl, rfl, _, rfl, ?_⟩
    refine ifIN (fun e => ?_) (fun e => ?_)
    · refine ⟨_, rfl, rfl, _, rfl, ?_⟩
      refine ifIN (fun e' => ?_) (fun e' => ?_)
      · exact h2 fun z => z.elim e e'
      · exact h1 (.inr e')
    · exact if_f rfl (h1 (.inl e))
theorem ok_B_init {f : Addr} {fd : FuncData} (F : Fun K "__init__" "Board.__init__" s_B_init f fd) (T : Top K mg D) (x_NoBoard : XC K mg "NoBoard" D.eNoBoard) : FnOk P w K mg base (L2.CX P w) 1 f fd ["self", "rows", "columns"] (sp_B_init K D) := by
  refine F.okX sc_B_init (fun vs H Q E h => ?_) (fun cdv A outer s H vs Q E hr h => ?_)
  · obtain ⟨p, dx, r, c, rfl, hh⟩ := h
    rfl
  · obtain ⟨p, dx, r, c, rfl, hh⟩ := h
    refine ⟨_, (pss_cons (ps_if (PW.pt (pw_or (pt_cmpR op_lt (pv 1) pe_int (nomark _)) (pw_or (pt_cmpR op_gt (pv 1) (pe_glob (v := V.int 10) (by rfl) T.g_GREATEST ⟨_, rfl⟩) (nomark _)) (pw_or (pt_cmpR op_lt (pv 2) pe_int (nomark _)) (pw_or1 (pt_cmpR op_gt (pv 2) (pe_glob (v := V.int 10) (by rfl) T.g_GREATEST ⟨_, rfl⟩) (nomark _))))))) (pss_one (ps_rz x_NoBoard (takes_of rfl rfl rfl rfl))) pss_nil)
      (pss_cons (ps_fld (pv 0) (pv 1) rfl)
      (pss_cons (ps_fld (pv 0) (pv 2) rfl)
      (pss_one (ps_fld (pv 0) pe_dnewT rfl))))), ?_⟩
    obtain ⟨hp, h1, h2⟩ := hh
    refine ⟨_, rfl, _, _, rfl, rfl, _, rfl, ?_⟩
    refine ifD (fun e => ?_) (fun e => ?_)
    · exact h1 fun z => by have := z.1; omega
    refine ⟨_, rfl, _, _, rfl, rfl, _, rfl, ?_⟩
    refine ifD (fun e2 => ?_) (fun e2 => ?_)
    · exact h1 fun z => by have := z.2.1; omega
    refine ⟨_, rfl, _, _, rfl, rfl, _, rfl, ?_⟩
    refine ifD (fun e3 => ?_) (fun e3 => ?_)
    · exact h1 fun z => by have := z.2.2.1; omega
    refine ⟨_, rfl, _, _, rfl, rfl, _, rfl, ?_⟩
    refine ifD (fun e4 => ?_) (fun e4 => ?_)
    · exact h1 fun z => by have := z.2.2.2; omega
    have hs : Size r c := ⟨by omega, by omega, by omega, by omega⟩
    refine ⟨_, rfl, _, rfl, p, D.C, dx, _, rfl, hp, T.cl, T.nH, (by show 0 < 1000; decide), ?_⟩
    refine ⟨_, rfl, _, rfl, p, D.C, dx, _, rfl, upd_same, T.cl, T.nW, (by show 1 < 1000; decide), ?_⟩
    intro d hd
    have hpd : p ≠ d := fun z => by subst z; rw [upd_same] at hd; cases hd
    rw [upd_ne hpd.symm, upd_ne hpd.symm] at hd
    refine ⟨_, rfl, p, D.C, dx, _, rfl, by rw [upd_ne hpd]; exact upd_same, T.cl, T.nO, (by show 2 < 1000; decide), ?_⟩
    refine h2 hs d _ hd ⟨⟨dx, Eq.trans upd_same (congrArg (fun l => some (HO.ins D.C dx l)) (fl_mk r c d))⟩, by rw [upd_ne hpd.symm]; exact upd_same, BOk.nil hs.1 hs.2.1 hs.2.2.1 hs.2.2.2⟩ fun b o e hb => ?_
    rw [upd_ne hb, upd_ne (ne_of_none e hd), upd_ne hb, upd_ne hb]
    exact e
theorem ok_B_rows {f : Addr} {fd : FuncData} (F : Fun K "rows" "Board.rows" s_B_rows f fd) (T : Top K mg D) : FnOk P w K mg base (L2.CX P w) 1 f fd ["self"] (sp_B_rows K D) := by
  refine ofX0 (F.ok sc_B_rows (fun vs H Q E h => ?_) (fun cdv A outer s H vs Q E hr h => ?_))
  · obtain ⟨b, d, R, C, kv, rfl, hh⟩ := h
    rfl
  · obtain ⟨b, d, R, C, kv, rfl, hh⟩ := h
    refine ⟨_, (pss_one (ps_ret (pe_fld (pv 0) rfl))), ?_⟩
    obtain ⟨S, k⟩ := hh
    obtain ⟨⟨dx, h1⟩, _⟩ := id S
    exact ⟨_, rfl, b, D.C, dx, _, _, rfl, h1, T.cl, T.nH, fl_H _ _ _, k⟩
theorem ok_B_columns {f : Addr} {fd : FuncData} (F : Fun K "columns" "Board.columns" s_B_columns f fd) (T : Top K mg D) : FnOk P w K mg base (L2.CX P w) 1 f fd ["self"] (sp_B_columns K D) := by
  refine ofX0 (F.ok sc_B_columns (fun vs H Q E h => ?_) (fun cdv A outer s H vs Q E hr h => ?_))
  · obtain ⟨b, d, R, C, kv, rfl, hh⟩ := h
    rfl
  · obtain ⟨b, d, R, C, kv, rfl, hh⟩ := h
    refine ⟨_, (pss_one (ps_ret (pe_fld (pv 0) rfl))), ?_⟩
    obtain ⟨S, k⟩ := hh
    obtain ⟨⟨dx, h1⟩, _⟩ := id S
    exact ⟨_, rfl, b, D.C, dx, _, _, rfl, h1, T.cl, T.nW, fl_W _ _ _, k⟩
theorem ok_B_has {f : Addr} {fd : FuncData} (F : Fun K "has" "Board.has" s_B_has f fd) (T : Top K mg D) : FnOk P w K mg base (L2.CX P w) 1 f fd ["self", "cell"] (sp_B_has K D) := by
  refine ofX0 (F.ok sc_B_has (fun vs H Q E h => ?_) (fun cdv A outer s H vs Q E hr h => ?_))
  · obtain ⟨b, d, R, C, kv, v, c, rfl, hh⟩ := h
    rfl
  · obtain ⟨b, d, R, C, kv, v, c, rfl, hh⟩ := h
    refine ⟨_, (pss_one (ps_ret (pe_and (pe_cmpR op_le pe_int (pe_ix ix_tup (pv 1) pe_int (fun _ _ => rfl)) (nomark _)) (pe_and (pe_cmpR op_lt (pe_ix ix_tup (pv 1) pe_int (fun _ _ => rfl)) (pe_fld (pv 0) rfl) (nomark _)) (pe_and (pe_cmpR op_le pe_int (pe_ix ix_tup (pv 1) pe_int (fun _ _ => rfl)) (nomark _)) (pe_one (pe_cmpR op_lt (pe_ix ix_tup (pv 1) pe_int (fun _ _ => rfl)) (pe_fld (pv 0) rfl) (nomark _)))))))), ?_⟩
    obtain ⟨S, ⟨t, rfl, ht⟩, k⟩ := hh
    obtain ⟨⟨dx, h1⟩, _⟩ := id S
    refine ⟨_, rfl, t, _, _, _, rfl, rfl, SqT.of ht, at0, _, _, rfl, rfl, _, rfl, ifD (fun e1 => ?_) (fun e1 => ?_)⟩
    · refine ⟨_, rfl, t, _, _, _, rfl, rfl, SqT.of ht, at0, _, rfl, b, D.C, dx, _, _, rfl, h1, T.cl, T.nH, fl_H _ _ _, _, _, rfl, rfl, _, rfl, ifD (fun e2 => ?_) (fun e2 => ?_)⟩
      · refine ⟨_, rfl, t, _, _, _, rfl, rfl, SqT.of ht, at1, _, _, rfl, rfl, _, rfl, ifD (fun e3 => ?_) (fun e3 => ?_)⟩
        · refine ⟨_, rfl, t, _, _, _, rfl, rfl, SqT.of ht, at1, _, rfl, b, D.C, dx, _, _, rfl, h1, T.cl, T.nW, fl_W _ _ _, _, _, rfl, rfl, ?_⟩
          have e : decide (B R C c) = decide (c.2 < C) := decide_eq_decide.mpr ⟨fun z => z.2.2.2, fun z => ⟨e1, e2, e3, z⟩⟩
          rw [e] at k
          exact k
        · rw [decide_eq_false fun z => e3 z.2.2.1] at k
          exact k
      · rw [decide_eq_false fun z => e2 z.2.1] at k
        exact k
    · rw [decide_eq_false fun z => e1 z.1] at k
      exact k
theorem ok_B_see_cell {f : Addr} {fd : FuncData} (F : Fun K "see_cell" "Board.see_cell" s_B_see_cell f fd) (T : Top K mg D) (x_NoCell : XC K mg "NoCell" D.eNoCell) (c_B_has : Mt P w K mg base 1 D.C "has" (sp_B_has K D)) : FnOk P w K mg base (L2.CX P w) 2 f fd ["self", "cell"] (sp_B_see_cell K D) := by
  refine F.okX sc_B_see_cell (fun vs H Q E h => ?_) (fun cdv A outer s H vs Q E hr h => ?_)
  · obtain ⟨b, d, R, C, kv, v, c, rfl, hh⟩ := h
    rfl
  · obtain ⟨b, d, R, C, kv, v, c, rfl, hh⟩ := h
    refine ⟨_, (pss_one (ps_if (pt_not (pt_val (pe_mth c_B_has T.cl (pv 0) hr passL (pa_cons (pv 1) pa_nil)))) (pss_one (ps_rz x_NoCell (takes_of rfl rfl rfl rfl))) pss_nil)), ?_⟩
    obtain ⟨S, hv, h1, h2⟩ := hh
    obtain ⟨⟨dx, hb⟩, _⟩ := id S
    refine ⟨_, rfl, b, dx, _, rfl, hb, fl_no _ _ _ (by decide +kernel) (by decide +kernel) (by decide +kernel), _, rfl, b, d, R, C, kv, v, c, rfl, S, hv, _, rfl, ifN (fun e => ?_) (fun e => ?_)⟩
    · exact h2 e
    · exact h1 e
theorem ok_B_put {f : Addr} {fd : FuncData} (F : Fun K "put" "Board.put" s_B_put f fd) (T : Top K mg D) (x_CellTaken : XC K mg "CellTaken" D.eCellTaken) (c_B_see_cell : Mt P w K mg base 2 D.C "see_cell" (sp_B_see_cell K D)) (c_see_hand : Cl P w K mg base 1 "see_hand" (sp_see_hand K D)) : FnOk P w K mg base (L2.CX P w) 3 f fd ["self", "cell", "hand"] (sp_B_put K D) := by
  refine F.okX sc_B_put (fun vs H Q E h => ?_) (fun cdv A outer s H vs Q E hr h => ?_)
  · obtain ⟨b, d, R, C, kv, v, c, h0, rfl, hh⟩ := h
    rfl
  · obtain ⟨b, d, R, C, kv, v, c, h0, rfl, hh⟩ := h
    have hu := hu_of hr
    refine ⟨_, (pss_cons (ps_expr (pe_mth c_B_see_cell T.cl (pv 0) hr (passes_call (takes_of rfl rfl rfl rfl) (fun _ _ _ _ z => z)) (pa_cons (pv 1) pa_nil)))
      (pss_cons (ps_expr (pe_cl c_see_hand hr (passes_call (takes_of rfl rfl rfl rfl) (fun _ _ _ _ z => z)) (pa_cons (pv 2) pa_nil)))
      (pss_cons (ps_if (pt_cmp (pc_din hu (pv 1) (pe_fld (pv 0) rfl))) (pss_one (ps_rz x_CellTaken (takes_of rfl rfl rfl rfl))) pss_nil)
      (pss_one (ps_dput hu (pe_fld (pv 0) rfl) (pv 1) (pv 2) rfl))))), ?_⟩
    obtain ⟨S, hv, h1, h2, h3, h4⟩ := hh
    obtain ⟨⟨dx, hb⟩, hd, hk⟩ := id S
    refine ⟨_, rfl, b, dx, _, rfl, hb, fl_no _ _ _ (by decide +kernel) (by decide +kernel) (by decide +kernel), _, rfl, b, d, R, C, kv, v, c, rfl, S, hv, fun e => ?_, h1⟩
    refine ⟨_, rfl, h0, rfl, fun e2 => ?_, h2 e⟩
    obtain ⟨t, rfl, ht⟩ := hv
    refine ⟨_, rfl, _, rfl, b, D.C, dx, _, _, rfl, hb, T.cl, T.nO, fl_O _ _ _, d, _, rfl, DGet.t (k := key c) hd ht, _, rfl, ?_⟩
    rw [val_dk]
    cases e3 : lk kv c with
    | some z => exact if_t rfl (h3 e e2 (by rw [e3]; exact fun q => nomatch q))
    | none =>
      refine if_f rfl ?_
      refine ⟨_, rfl, _, rfl, b, D.C, dx, _, _, rfl, hb, T.cl, T.nO, fl_O _ _ _, _, rfl, d, _, rfl, DPut.t (k := key c) hd ht (by unfold dk; rw [List.length_map]; exact small1000 (Nat.le_trans hk.few (by decide))), ?_⟩
      have q := h4 e e2 e3
      unfold setD at q
      rw [← put_dk _ _ _ _ e3] at q
      exact q
theorem ok_B_lift {f : Addr} {fd : FuncData} (F : Fun K "lift" "Board.lift" s_B_lift f fd) (T : Top K mg D) (x_CellEmpty : XC K mg "CellEmpty" D.eCellEmpty) (c_B_see_cell : Mt P w K mg base 2 D.C "see_cell" (sp_B_see_cell K D)) : FnOk P w K mg base (L2.CX P w) 3 f fd ["self", "cell"] (sp_B_lift K D) := by
  refine F.okX sc_B_lift (fun vs H Q E h => ?_) (fun cdv A outer s H vs Q E hr h => ?_)
  · obtain ⟨b, d, R, C, kv, v, c, rfl, hh⟩ := h
    rfl
  · obtain ⟨b, d, R, C, kv, v, c, rfl, hh⟩ := h
    have hu := hu_of hr
    refine ⟨_, (pss_cons (ps_expr (pe_mth c_B_see_cell T.cl (pv 0) hr (passes_call (takes_of rfl rfl rfl rfl) (fun _ _ _ _ z => z)) (pa_cons (pv 1) pa_nil)))
      (pss_cons (ps_if (pt_cmp (pc_dnotin hu (pv 1) (pe_fld (pv 0) rfl))) (pss_one (ps_rz x_CellEmpty (takes_of rfl rfl rfl rfl))) pss_nil)
      (pss_one (ps_expr (pe_bm PySem.F.plainAttrs_dict PySem.F.slot_dict_pop PySem.F.type_dict_pop (mt_pop1T hu) (pe_fld (pv 0) rfl) (pa_cons (pv 1) pa_nil)))))), ?_⟩
    obtain ⟨S, hv, h1, h2, h3⟩ := hh
    obtain ⟨⟨dx, hb⟩, hd, hk⟩ := id S
    refine ⟨_, rfl, b, dx, _, rfl, hb, fl_no _ _ _ (by decide +kernel) (by decide +kernel) (by decide +kernel), _, rfl, b, d, R, C, kv, v, c, rfl, S, hv, fun e => ?_, h1⟩
    obtain ⟨t, rfl, ht⟩ := hv
    refine ⟨_, rfl, _, rfl, b, D.C, dx, _, _, rfl, hb, T.cl, T.nO, fl_O _ _ _, d, _, rfl, DGet.t (k := key c) hd ht, _, rfl, ?_⟩
    rw [val_dk]
    cases e3 : lk kv c with
    | none => exact if_t rfl (h2 e e3)
    | some z =>
      refine if_f rfl ?_
      refine ⟨_, rfl, b, D.C, dx, _, _, rfl, hb, T.cl, T.nO, fl_O _ _ _, .inr (.inr (.inl ⟨rfl, .inr ⟨_, hd⟩⟩)), _, rfl, d, _, key c, t, V.int z, rfl, rfl, hd, ht, by rw [val_dk, e3]; rfl, ?_⟩
      rw [drop_dk]
      exact h3 e (by rw [e3]; exact fun q => nomatch q)
theorem ok_B_owner {f : Addr} {fd : FuncData} (F : Fun K "owner" "Board.owner" s_B_owner f fd) (T : Top K mg D) (c_B_see_cell : Mt P w K mg base 2 D.C "see_cell" (sp_B_see_cell K D)) : FnOk P w K mg base (L2.CX P w) 3 f fd ["self", "cell"] (sp_B_owner K D) := by
  refine F.okX sc_B_owner (fun vs H Q E h => ?_) (fun cdv A outer s H vs Q E hr h => ?_)
  · obtain ⟨b, d, R, C, kv, v, c, rfl, hh⟩ := h
    rfl
  · obtain ⟨b, d, R, C, kv, v, c, rfl, hh⟩ := h
    have hu := hu_of hr
    refine ⟨_, (pss_cons (ps_expr (pe_mth c_B_see_cell T.cl (pv 0) hr (passes_call (takes_of rfl rfl rfl rfl) (fun _ _ _ _ z => z)) (pa_cons (pv 1) pa_nil)))
      (pss_one (ps_ret (pe_dget2 hu (pe_fld (pv 0) rfl) (pv 1) pe_int ⟨rfl, rfl, rfl, rfl⟩)))), ?_⟩
    obtain ⟨S, hv, h1, h2⟩ := hh
    obtain ⟨⟨dx, hb⟩, hd, hk⟩ := id S
    refine ⟨_, rfl, b, dx, _, rfl, hb, fl_no _ _ _ (by decide +kernel) (by decide +kernel) (by decide +kernel), _, rfl, b, d, R, C, kv, v, c, rfl, S, hv, fun e => ?_, h1⟩
    obtain ⟨t, rfl, ht⟩ := hv
    refine ⟨_, rfl, b, D.C, dx, _, _, rfl, hb, T.cl, T.nO, fl_O _ _ _, d, rfl, .inr ⟨_, .inl hd⟩, _, rfl, _, DGet.t (k := key c) hd ht, ?_⟩
    rw [val_dk]
    have q := h2 e
    unfold ow at q
    cases e3 : lk kv c with
    | none => rw [e3] at q; exact q
    | some z => rw [e3] at q; exact q
theorem ok_B_empties {f : Addr} {fd : FuncData} (F : Fun K "empties" "Board.empties" s_B_empties f fd) (T : Top K mg D) (c_cells_of : Cl P w K mg base 2 "cells_of" (sp_cells_of K D)) : FnOk P w K mg base (L2.CX P w) 3 f fd ["self"] (sp_B_empties K D) := by
  refine ofX0 (F.ok sc_B_empties (fun vs H Q E h => ?_) (fun cdv A outer s H vs Q E hr h => ?_))
  · obtain ⟨b, d, R, C, kv, rfl, hh⟩ := h
    rfl
  · obtain ⟨b, d, R, C, kv, rfl, hh⟩ := h
    have hu := hu_of hr
    refine ⟨_, (pss_one (ps_ret (pe_lc (own := [("cell", 1)]) (by rfl) sc_B_empties.nd (pi_list (pe_cl c_cells_of hr passL (pa_cons (pv 0) pa_nil))) (blkOk_by (own := [("cell", 1)]) (N := ["self", "cell"]) (sc := defScope s_B_empties) (by decide +kernel)) (fun _ _ _ _ _ => (pg_name (i := 1) sc_B_empties.nd rfl (by first | exact Or.inl rfl | exact Or.inr rfl))) (fun _ _ _ _ _ => pts_one (pt_cmp (pc_dnotin hu (pv 1) (pe_fldK K (pv 0) rfl)))) (fun _ _ _ _ _ => (pv 1))))), ?_⟩
    obtain ⟨S, k⟩ := hh
    refine ⟨_, rfl, b, d, R, C, kv, rfl, S, fun L vs H2 s2 nL hL hc => ?_⟩
    obtain ⟨⟨dx2, hb2⟩, hd2, hk⟩ := S.same s2
    refine ⟨L, rfl, ⟨_, SqL.of hL⟩, fun L2 hL3 => lc_list (K := K) (a := L) (xs := vs) (fun i H3 => Same H2 H3 ∧ ∃ ws, H3 L2 = some (.lst ws) ∧ Cells H3 ws (((cells R C).take i).filter fun z => (lk kv z).isNone)) ⟨same_upd hL3, [], upd_same, .nil⟩ (fun _ H3 _ q => SqL.of (q.1 _ _ hL)) ?_ ?_⟩
    · rintro i x H3 hx ⟨s3, ws, hL4, hc3⟩
      have hlen3 := paired_len hc3
      obtain ⟨ci, hci, ti, rfl, hti⟩ := paired_get hc hx
      have hti3 := s3 _ _ hti
      refine ⟨rfl, _, rfl, _, rfl, b, D.C, dx2, _, _, rfl, s3 _ _ hb2, T.cl, T.nO, fl_O _ _ _, d, _, rfl, DGet.t (k := key ci) (s3 _ _ hd2) hti3, _, rfl, ?_⟩
      rw [val_dk]
      cases e3 : lk kv ci with
      | none =>
        refine if_t rfl ?_
        refine ⟨_, rfl, ws, hL4, small100 (by rw [hlen3]; exact Nat.le_trans (List.length_filter_le _ _) (Nat.le_trans (List.length_take_le' _ _) (Nat.le_trans (cells_small hk.r2 hk.c2) (by decide)))), same_set s3 hL3, ws ++ [V.ref ti], upd_same, ?_⟩
        rw [filter_take _ hci, if_pos (by rw [e3]; rfl)]
        exact cells_snoc hc3 hL4 (lst_ntup _) hti3 _
      | some z =>
        refine if_f rfl ⟨s3, ws, hL4, ?_⟩
        rw [filter_take _ hci, if_neg (by rw [e3]; exact Bool.false_ne_true), List.append_nil]
        exact hc3
    · rintro H3 ⟨s3, ws, hL4, hc3⟩
      rw [paired_len hc, List.take_length] at hc3
      exact k L2 ws H3 (s2.trans s3) (s2.free hL3) hL4 hc3
theorem ok_cells_of {f : Addr} {fd : FuncData} (F : Fun K "cells_of" "cells_of" s_cells_of f fd) (T : Top K mg D) (c_B_rows : Mt P w K mg base 1 D.C "rows" (sp_B_rows K D)) (c_B_columns : Mt P w K mg base 1 D.C "columns" (sp_B_columns K D)) : FnOk P w K mg base (L2.CX P w) 2 f fd ["board"] (sp_cells_of K D) := by
  refine ofX0 (F.ok sc_cells_of (fun vs H Q E h => ?_) (fun cdv A outer s H vs Q E hr h => ?_))
  · obtain ⟨b, d, R, C, kv, rfl, hh⟩ := h
    rfl
  · obtain ⟨b, d, R, C, kv, rfl, hh⟩ := h
    refine ⟨_, (pss_cons (ps_set (i := 1) sc_cells_of.nd rfl (by first | exact Or.inl rfl | exact Or.inr rfl) (pe_lst pa_nil))
      (pss_cons (ps_for PassesOwn.never rfl (pi_range1 (by rfl) T.range (pa_cons (pe_mth0 c_B_rows T.cl (pv 0) hr passL) pa_nil)) (pg_name (i := 2) sc_cells_of.nd rfl (by first | exact Or.inl rfl | exact Or.inr rfl)) (pss_one (ps_for PassesOwn.never rfl (pi_range1 (by rfl) T.range (pa_cons (pe_mth0 c_B_columns T.cl (pv 0) hr passL) pa_nil)) (pg_name (i := 3) sc_cells_of.nd rfl (by first | exact Or.inl rfl | exact Or.inr rfl)) (pss_one (ps_expr (pe_bm PySem.F.plainAttrs_list PySem.F.slot_list_append PySem.F.type_list_append mt_append (pv 1) (pa_cons (pe_tup (pa_cons (pv 2) (pa_cons (pv 3) pa_nil))) pa_nil)))))))
      (pss_one (ps_ret (pv 1))))), ?_⟩
    obtain ⟨S, k⟩ := hh
    obtain ⟨⟨dx, hb⟩, _, hk⟩ := id S
    refine ⟨by show 0 ≤ sizeLine; decide, fun L hL => ?_⟩
    have s1 : Same H (upd H L (.lst [])) := same_upd hL
    have r1 := hk.r1; have r2 := hk.r2; have c1 := hk.c1; have c2 := hk.c2
    have noB : ∀ m : Str, (m == ("height" : Str)) = false → (m == ("width" : Str)) = false → (m == ("owners" : Str)) = false → (flds R C d).lookup m = none := fun m h1 h2 h3 => fl_no _ _ _ h1 h2 h3
    refine ⟨_, rfl, b, dx, _, rfl, s1 _ _ hb, noB _ (by decide +kernel) (by decide +kernel) (by decide +kernel), b, d, R, C, kv, rfl, S.same s1, R, rfl, by omega, by omega,
      for_range (lo := 0) (n := R.toNat) (fun i σ H2 => ∃ v2 v3 vs, σ = [some (.ref b), some (.ref L), v2, v3] ∧ Same H H2 ∧ H2 L = some (.lst vs) ∧ Cells H2 vs (cellsN i C.toNat)) ⟨none, none, [], rfl, s1, upd_same, .nil⟩ ?_ ?_⟩
    · rintro i σ H2 hi ⟨v2, v3, vs, rfl, s2, hL2, hc⟩
      refine ⟨_, rfl, b, dx, _, rfl, s2 _ _ hb, noB _ (by decide +kernel) (by decide +kernel) (by decide +kernel), b, d, R, C, kv, rfl, S.same s2, C, rfl, by omega, by omega,
        for_range (lo := 0) (n := C.toNat) (fun j σ H3 => ∃ v3 vs, σ = [some (.ref b), some (.ref L), some (.int (0 + (i : Int))), v3] ∧ Same H H3 ∧ H3 L = some (.lst vs) ∧ Cells H3 vs (cellsN i C.toNat ++ (List.range j).map fun (c : Nat) => (((i : Nat) : Int), ((c : Nat) : Int)))) ⟨v3, vs, rfl, s2, hL2, by rw [List.range_zero, List.map_nil, List.append_nil]; exact hc⟩ ?_ ?_⟩
      · rintro j σ H3 hj ⟨v3', vs3, rfl, s3, hL3, hc3⟩
        have hlen := paired_len hc3
        have hn : (cellsN i C.toNat).length ≤ 100 := by
          have := cells_len (i : Int) C
          unfold cells at this
          rw [show ((i : Int)).toNat = i from Int.toNat_natCast i] at this
          rw [this]
          exact Nat.mul_le_mul (by omega : i ≤ 10) (by omega : C.toNat ≤ 10)
        refine ⟨_, rfl, .inl ⟨rfl, _, SqL.of hL3⟩, _, rfl, _, rfl, (by show 2 ≤ sizeLine; decide), fun p hp => ?_⟩
        have hpL : L ≠ p := ne_of_none hL3 hp
        refine ⟨L, vs3, V.ref p, rfl, rfl, by rw [upd_ne hpL]; exact hL3, small100 (by rw [hlen, List.length_append, List.length_map, List.length_range]; omega), ?_⟩
        refine ⟨_, vs3 ++ [V.ref p], rfl, same_set (fun b o z => by rw [upd_ne (ne_of_none (s3 _ _ z) hp)]; exact s3 _ _ z) hL, upd_same, ?_⟩
        rw [List.range_succ, List.map_append, ← List.append_assoc]
        refine cells_snoc (c := ((i : Int), (j : Int))) (hc3.same (same_upd hp)) (by rw [upd_ne hpL]; exact hL3) (lst_ntup _) ?_ _
        rw [upd_same, Int.zero_add, Int.zero_add]
      · rintro σ H3 ⟨v3', vs3, rfl, s3, hL3, hc3⟩
        refine ⟨_, _, vs3, rfl, s3, hL3, ?_⟩
        unfold cellsN at hc3 ⊢
        rw [List.range_succ, List.flatMap_append]
        rw [show List.flatMap (fun (r : Nat) => (List.range C.toNat).map fun (c : Nat) => (((r : Nat) : Int), ((c : Nat) : Int))) [i] = (List.range C.toNat).map fun (c : Nat) => (((i : Nat) : Int), ((c : Nat) : Int)) by simp]
        exact hc3
    · rintro σ H2 ⟨v2, v3, vs, rfl, s2, hL2, hc⟩
      exact ⟨_, rfl, k L vs H2 s2 hL hL2 hc⟩
theorem ok_law_cell_at {f : Addr} {fd : FuncData} (F : Fun K "_law_cell_at" "_law_cell_at" s_law_cell_at f fd) (T : Top K mg D) : FnOk P w K mg base (L2.CX P w) 1 f fd ["script", "k"] (sp_law_cell_at K D) := by
  refine ofX0 (F.ok sc_law_cell_at (fun vs H Q E h => ?_) (fun cdv A outer s H vs Q E hr h => ?_))
  · obtain ⟨a, ns, j, rfl, hh⟩ := h
    rfl
  · obtain ⟨a, ns, j, rfl, hh⟩ := h
    refine ⟨_, (pss_cons (ps_if (pt_cmpR op_lt (pv 1) (pe_callB (id := "len") call_len_seq (by rfl) T.len (by decide +kernel) (pa_cons (pv 0) pa_nil)) (nomark _)) (pss_one (ps_ret (pe_ix ix_list (pv 0) (pv 1) (fun _ _ => rfl)))) pss_nil)
      (pss_one (ps_ret pe_int))), ?_⟩
    obtain ⟨hS, h0, k⟩ := hh
    refine ⟨_, rfl, _, rfl, a, _, rfl, .inl hS, _, _, rfl, rfl, _, rfl, ifD (fun e => ?_) (fun e => ?_)⟩
    · rw [List.length_map] at e
      have hj : j.toNat < ns.length := by omega
      refine ⟨_, rfl, _, rfl, a, _, _, V.int (item ns j), rfl, rfl, hS, at_of (j := j.toNat) (by omega) ?_, k⟩
      rw [List.getElem?_map, List.getElem?_eq_getElem hj]
      unfold item
      rw [List.getD_eq_getElem?_getD, List.getElem?_eq_getElem hj]
      rfl
    · rw [List.length_map] at e
      have hj : ns.length ≤ j.toNat := by omega
      unfold item at k
      rw [List.getD_eq_getElem?_getD, List.getElem?_eq_none hj] at k
      exact k
theorem ok_law_whole {f : Addr} {fd : FuncData} (F : Fun K "_law_whole" "_law_whole" s_law_whole f fd) (T : Top K mg D) : FnOk P w K mg base (L2.CX P w) 1 f fd ["found"] (sp_law_whole K D) := by
  refine ofX0 (F.ok sc_law_whole (fun vs H Q E h => ?_) (fun cdv A outer s H vs Q E hr h => ?_))
  · obtain ⟨i, rfl, hh⟩ := h
    rfl
  · obtain ⟨i, rfl, hh⟩ := h
    refine ⟨_, (pss_one (ps_ret (pe_and (pe_callB (id := "isinstance") call_isi (by rfl) T.isinstance (by decide +kernel) (pa_cons (pv 0) (pa_cons (pe_ty (n := "int") T.int (by decide +kernel)) pa_nil))) (pe_one (pe_not (pe_callB (id := "isinstance") call_isi (by rfl) T.isinstance (by decide +kernel) (pa_cons (pv 0) (pa_cons (pe_ty (n := "bool") T.bool (by decide +kernel)) pa_nil)))))))), ?_⟩
    exact ⟨_, rfl, _, _, _, _, true, rfl, .ty "int", .base (.int i), kit_ty (by decide +kernel), true, rfl, _, rfl, _, _, _, _, false, rfl, .ty "bool", .base (.int i), kit_ty (by decide +kernel), false, rfl, hh⟩
theorem ok_law_is_cells {f : Addr} {fd : FuncData} (F : Fun K "_law_is_cells" "_law_is_cells" s_law_is_cells f fd) (T : Top K mg D) (c_law_whole : Cl P w K mg base 1 "_law_whole" (sp_law_whole K D)) : FnOk P w K mg base (L2.CX P w) 2 f fd ["found", "rows", "columns"] (sp_law_is_cells K D) := by
  refine ofX0 (F.ok sc_law_is_cells (fun vs H Q E h => ?_) (fun cdv A outer s H vs Q E hr h => ?_))
  · obtain ⟨l, us, cs, R, C, rfl, hh⟩ := h
    rfl
  · obtain ⟨l, us, cs, R, C, rfl, hh⟩ := h
    refine ⟨_, (pss_cons (ps_if (pt_not (pt_val (pe_callB (id := "isinstance") call_isi (by rfl) T.isinstance (by decide +kernel) (pa_cons (pv 0) (pa_cons (pe_ty (n := "list") T.list (by decide +kernel)) pa_nil))))) (pss_one (ps_ret pe_bl)) pss_nil)
      (pss_cons (ps_for PassesOwn.never rfl (pi_list (pv 0)) (pg_name (i := 3) sc_law_is_cells.nd rfl (by first | exact Or.inl rfl | exact Or.inr rfl)) (pss_cons (ps_if (PW.pt (pw_or (pt_not (pt_val (pe_callB (id := "isinstance") call_isi (by rfl) T.isinstance (by decide +kernel) (pa_cons (pv 3) (pa_cons (pe_ty (n := "tuple") T.tuple (by decide +kernel)) pa_nil))))) (pw_or1 (pt_cmpR op_ne (pe_callB (id := "len") call_len_seq (by rfl) T.len (by decide +kernel) (pa_cons (pv 3) pa_nil)) pe_int (nomark _))))) (pss_one (ps_ret pe_bl)) pss_nil)
        (pss_cons (ps_if (PW.pt (pw_or (pt_not (pt_val (pe_cl c_law_whole hr passL (pa_cons (pe_ix ix_tup (pv 3) pe_int (fun _ _ => rfl)) pa_nil)))) (pw_or1 (pt_not (pt_val (pe_cl c_law_whole hr passL (pa_cons (pe_ix ix_tup (pv 3) pe_int (fun _ _ => rfl)) pa_nil))))))) (pss_one (ps_ret pe_bl)) pss_nil)
        (pss_one (ps_if (PW.pt (pw_or (pt_not (pt_btw (n := 1) (pe_ix ix_tup (pv 3) pe_int (fun _ _ => rfl)) (pv 1))) (pw_or1 (pt_not (pt_btw (n := 2) (pe_ix ix_tup (pv 3) pe_int (fun _ _ => rfl)) (pv 2)))))) (pss_one (ps_ret pe_bl)) pss_nil)))))
      (pss_one (ps_ret pe_bl)))), ?_⟩
    obtain ⟨hl, hc, hB, k⟩ := hh
    refine ⟨_, rfl, _, _, _, _, true, rfl, .ty "list", .base (.lst hl), kit_ty (by decide +kernel), true, rfl, ?_⟩
    refine ⟨_, rfl, l, rfl, ⟨_, SqL.of hl⟩, for_list (K := K) (a := l) (xs := us) (fun i σ H2 => ∃ v3, σ = [some (.ref l), some (.int R), some (.int C), v3] ∧ H2 = H) ⟨none, rfl, rfl⟩ (fun _ _ H2 _ ⟨_, _, e⟩ => by rw [e]; exact SqL.of hl) ?_ ?_⟩
    · rintro i x σ H2 hx ⟨v3, rfl, rfl⟩
      obtain ⟨ci, hci, t, rfl, ht⟩ := paired_get hc hx
      have hb := hB ci (List.mem_of_getElem? hci)
      refine ⟨_, rfl, _, _, _, _, true, rfl, .ty "tuple", .base (.tup ht), kit_ty (by decide +kernel), true, rfl, ?_⟩
      refine ⟨_, rfl, t, _, rfl, .inr (SqT.of ht), rfl, _, rfl, ?_⟩
      refine ⟨_, rfl, t, _, _, _, rfl, rfl, SqT.of ht, at0, _, rfl, true, rfl, ?_⟩
      refine ⟨_, rfl, t, _, _, _, rfl, rfl, SqT.of ht, at1, _, rfl, true, rfl, ?_⟩
      refine ⟨_, rfl, t, _, _, _, rfl, rfl, SqT.of ht, at0, _, _, rfl, rfl, ?_⟩
      refine ifNN (fun e => absurd (decide_eq_true (⟨hb.1, hb.2.1⟩ : 0 ≤ ci.1 ∧ ci.1 < R)) (by rw [e]; exact Bool.false_ne_true)) (fun _ => ?_)
      refine ⟨_, rfl, t, _, _, _, rfl, rfl, SqT.of ht, at1, _, _, rfl, rfl, ?_⟩
      refine ifNN (fun e => absurd (decide_eq_true (⟨hb.2.2.1, hb.2.2.2⟩ : 0 ≤ ci.2 ∧ ci.2 < C)) (by rw [e]; exact Bool.false_ne_true)) (fun _ => ?_)
      exact ⟨_, rfl, rfl⟩
    · rintro σ H2 ⟨v3, rfl, rfl⟩
      exact k
theorem ok_law_mark {f : Addr} {fd : FuncData} (F : Fun K "_law_mark" "_law_mark" s_law_mark f fd) (T : Top K mg D) : FnOk P w K mg base (L2.CX P w) 1 f fd ["k"] (sp_law_mark K D) := by
  refine ofX0 (F.ok sc_law_mark (fun vs H Q E h => ?_) (fun cdv A outer s H vs Q E hr h => ?_))
  · obtain ⟨k0, rfl, hh⟩ := h
    rfl
  · obtain ⟨k0, rfl, hh⟩ := h
    refine ⟨_, (pss_one (ps_ret (pe_tup (pa_cons pe_non (pa_cons (pe_lst (pa_cons (pe_cmpR op_eq (pv 0) pe_int (nomark _)) (pa_cons (pe_cmpR op_eq (pv 0) pe_int (nomark _)) (pa_cons (pe_cmpR op_eq (pv 0) pe_int (nomark _)) (pa_cons (pe_cmpR op_eq (pv 0) pe_int (nomark _)) (pa_cons pe_bl (pa_cons pe_bl pa_nil))))))) pa_nil))))), ?_⟩
    have k := hh
    refine ⟨_, rfl, rfl, _, rfl, rfl, _, rfl, rfl, _, rfl, rfl, szl, fun M nM => ?_⟩
    have sM := same_upd (o := .lst [V.bl (decide (V.int k0 = V.int 0)), V.bl (decide (V.int k0 = V.int 1)), V.bl (decide (V.int k0 = V.int 2)), V.bl (decide (V.int k0 = V.int 3)), V.bl false, V.bl false]) nM
    refine ⟨szl, fun p np => ?_⟩
    have sP := same_upd (o := .tup [V.non, V.ref M]) np
    refine k p _ (sM.trans sP) ⟨M, upd_same, sP _ _ ?_⟩
    rw [upd_same]
    have e : ∀ j : Int, decide (V.int k0 = V.int j) = decide (k0 = j) := fun j => decide_eq_decide.mpr ⟨V.int.inj, congrArg V.int⟩
    rw [e, e, e, e]
    rfl
theorem ok_law_due {f : Addr} {fd : FuncData} (F : Fun K "_law_due" "_law_due" s_law_due f fd) (T : Top K mg D) (c_law_mark : Cl P w K mg base 1 "_law_mark" (sp_law_mark K D)) : FnOk P w K mg base (L2.CX P w) 2 f fd ["rows", "columns", "owners", "kind", "cell", "hand"] (sp_law_due K D) := by
  refine ofX0 (F.ok sc_law_due (fun vs H Q E h => ?_) (fun cdv A outer s H vs Q E hr h => ?_))
  · obtain ⟨R, C, o, kv, kd, v, c, h0, rfl, hh⟩ := h
    rfl
  · obtain ⟨R, C, o, kv, kd, v, c, h0, rfl, hh⟩ := h
    have hu := hu_of hr
    refine ⟨_, (pss_cons (ps_if (PW.pt (pw_or (pt_cmpR op_lt (pe_ix ix_tup (pv 4) pe_int (fun _ _ => rfl)) pe_int (nomark _)) (pw_or (pt_cmpR op_ge (pe_ix ix_tup (pv 4) pe_int (fun _ _ => rfl)) (pv 0) (nomark _)) (pw_or (pt_cmpR op_lt (pe_ix ix_tup (pv 4) pe_int (fun _ _ => rfl)) pe_int (nomark _)) (pw_or1 (pt_cmpR op_ge (pe_ix ix_tup (pv 4) pe_int (fun _ _ => rfl)) (pv 1) (nomark _))))))) (pss_one (ps_ret (pe_cl c_law_mark hr passL (pa_cons pe_int pa_nil)))) pss_nil)
      (pss_cons (ps_if (pt_cmpR op_eq (pv 3) pe_int (nomark _)) (pss_cons (ps_if (pt_cmp (pc_dnotin hu (pv 4) (pv 2))) (pss_one (ps_ret (pe_cl c_law_mark hr passL (pa_cons pe_int pa_nil)))) pss_nil)
        (pss_cons (ps_expr (pe_bm PySem.F.plainAttrs_dict PySem.F.slot_dict_pop PySem.F.type_dict_pop (mt_pop1T hu) (pv 2) (pa_cons (pv 4) pa_nil)))
        (pss_one (ps_ret (pe_tup (pa_cons pe_non (pa_cons (pe_lst pa_nil) pa_nil))))))) pss_nil)
      (pss_cons (ps_if (pt_cmpR op_eq (pv 3) pe_int (nomark _)) (pss_one (ps_ret (pe_tup (pa_cons (pe_dget2 hu (pv 2) (pv 4) pe_int ⟨rfl, rfl, rfl, rfl⟩) (pa_cons (pe_lst pa_nil) pa_nil))))) pss_nil)
      (pss_cons (ps_if (PW.pt (pw_and (pt_cmpR op_ne (pv 5) pe_int (nomark _)) (pw_and1 (pt_cmpR op_ne (pv 5) pe_int (nomark _))))) (pss_one (ps_ret (pe_cl c_law_mark hr passL (pa_cons pe_int pa_nil)))) pss_nil)
      (pss_cons (ps_if (pt_cmp (pc_din hu (pv 4) (pv 2))) (pss_one (ps_ret (pe_cl c_law_mark hr passL (pa_cons pe_int pa_nil)))) pss_nil)
      (pss_cons (ps_dput hu (pv 2) (pv 4) (pv 5) rfl)
      (pss_one (ps_ret (pe_tup (pa_cons pe_non (pa_cons (pe_lst pa_nil) pa_nil))))))))))), ?_⟩
    obtain ⟨⟨t, rfl, ht⟩, hO, hk, k0⟩ := hh
    have mark : ∀ {i : Int} {p : Addr} {H' : Hp} (lem : deed R C kv kd c h0 = (none, mks i, kv)), Same H H' → Res H' p .non (mks i) → Q (.ref p) H' := fun {i p H'} lem s r => by
      have k := k0
      rw [lem] at k
      exact k p H' (.of s) (hO.same s) r
    refine ⟨_, rfl, t, _, _, _, rfl, rfl, SqT.of ht, at0, _, _, rfl, rfl, _, rfl, ifD (fun e => ?_) (fun e1 => ?_)⟩
    · exact ⟨0, rfl, fun p H' s r => mark (deed_out fun z => by unfold B at z; omega) s r⟩
    refine ⟨_, rfl, t, _, _, _, rfl, rfl, SqT.of ht, at0, _, rfl, _, _, rfl, rfl, _, rfl, ifD (fun e => ?_) (fun e2 => ?_)⟩
    · exact ⟨0, rfl, fun p H' s r => mark (deed_out fun z => by unfold B at z; omega) s r⟩
    refine ⟨_, rfl, t, _, _, _, rfl, rfl, SqT.of ht, at1, _, _, rfl, rfl, _, rfl, ifD (fun e => ?_) (fun e3 => ?_)⟩
    · exact ⟨0, rfl, fun p H' s r => mark (deed_out fun z => by unfold B at z; omega) s r⟩
    refine ⟨_, rfl, t, _, _, _, rfl, rfl, SqT.of ht, at1, _, rfl, _, _, rfl, rfl, _, rfl, ifD (fun e => ?_) (fun e4 => ?_)⟩
    · exact ⟨0, rfl, fun p H' s r => mark (deed_out fun z => by unfold B at z; omega) s r⟩
    have hB : B R C c := ⟨by omega, by omega, by omega, by omega⟩
    refine ⟨_, rfl, rfl, _, rfl, ifI (fun e => ?_) (fun e => ?_)⟩
    · refine ⟨_, rfl, _, rfl, o, _, rfl, DGet.t (k := key c) hO ht, _, rfl, ?_⟩
      rw [val_dk]
      cases q : lk kv c with
      | none => exact if_t rfl ⟨3, rfl, fun p H' s r => mark (deed_lift_no hB e q) s r⟩
      | some z =>
        refine if_f rfl ?_
        have k := k0
        rw [deed_lift hB e (by rw [q]; exact fun y => nomatch y)] at k
        refine ⟨_, rfl, .inr (.inr (.inl ⟨rfl, .inr ⟨_, hO⟩⟩)), _, rfl, o, _, key c, t, V.int z, rfl, rfl, hO, ht, by rw [val_dk, q]; rfl, ?_⟩
        rw [drop_dk]
        refine ⟨szl, fun M nM => ⟨szl, fun p np => ?_⟩⟩
        have sM := same_upd (o := .lst []) nM
        have sP := same_upd (o := .tup [V.non, V.ref M]) np
        exact k p _ ((But.set (.of (.refl _))).trans (.of (sM.trans sP))) ((sM.trans sP) _ _ upd_same) ⟨M, upd_same, sP _ _ upd_same⟩
    refine ⟨_, rfl, rfl, _, rfl, ifI (fun e5 => ?_) (fun e5 => ?_)⟩
    · have k := k0
      rw [deed_own hB e e5] at k
      refine ⟨_, rfl, o, rfl, .inr ⟨_, .inl hO⟩, _, rfl, _, DGet.t (k := key c) hO ht, ?_⟩
      rw [val_dk]
      refine ⟨szl, fun M nM => ⟨szl, fun p np => ?_⟩⟩
      have sM := same_upd (o := .lst []) nM
      have sP := fun v : V => same_upd (o := .tup [v, V.ref M]) np
      refine k p _ (.of (sM.trans (sP _))) (hO.same (sM.trans (sP _))) ⟨M, ?_, sP _ _ _ upd_same⟩
      rw [upd_same]
      unfold ow
      cases lk kv c <;> rfl
    have done : Hand h0 → True := fun _ => True.intro
    refine ⟨_, rfl, rfl, _, rfl, ?_⟩
    refine ifIN (fun e6 => ?_) (fun e6 => ?_)
    · refine ⟨_, rfl, rfl, _, rfl, ?_⟩
      refine ifIN (fun e7 => ?_) (fun e7 => ?_)
      · exact ⟨1, rfl, fun p H' s r => mark (deed_hand hB e e5 fun z => z.elim e6 e7) s r⟩
      · have hh0 : Hand h0 := .inr e7
        refine ⟨_, rfl, _, rfl, o, _, rfl, DGet.t (k := key c) hO ht, _, rfl, ?_⟩
        rw [val_dk]
        cases q : lk kv c with
        | some z => exact if_t rfl ⟨2, rfl, fun p H' s r => mark (deed_taken hB e e5 hh0 (by rw [q]; exact fun y => nomatch y)) s r⟩
        | none =>
          refine if_f rfl ?_
          have k := k0
          rw [deed_put hB e e5 hh0 q] at k
          refine ⟨_, rfl, _, rfl, _, rfl, o, _, rfl, DPut.t (k := key c) hO ht (by unfold dk; rw [List.length_map]; exact small1000 (Nat.le_trans hk.few (by decide))), ?_⟩
          rw [put_dk _ _ _ _ q]
          refine ⟨szl, fun M nM => ⟨szl, fun p np => ?_⟩⟩
          have sM := same_upd (o := .lst []) nM
          have sP := same_upd (o := .tup [V.non, V.ref M]) np
          exact k p _ ((But.set (.of (.refl _))).trans (.of (sM.trans sP))) ((sM.trans sP) _ _ upd_same) ⟨M, upd_same, sP _ _ upd_same⟩
    · have hh0 : Hand h0 := .inl e6
      refine if_f rfl ?_
      refine ⟨_, rfl, _, rfl, o, _, rfl, DGet.t (k := key c) hO ht, _, rfl, ?_⟩
      rw [val_dk]
      cases q : lk kv c with
      | some z => exact if_t rfl ⟨2, rfl, fun p H' s r => mark (deed_taken hB e e5 hh0 (by rw [q]; exact fun y => nomatch y)) s r⟩
      | none =>
        refine if_f rfl ?_
        have k := k0
        rw [deed_put hB e e5 hh0 q] at k
        refine ⟨_, rfl, _, rfl, _, rfl, o, _, rfl, DPut.t (k := key c) hO ht (by unfold dk; rw [List.length_map]; exact small1000 (Nat.le_trans hk.few (by decide))), ?_⟩
        rw [put_dk _ _ _ _ q]
        refine ⟨szl, fun M nM => ⟨szl, fun p np => ?_⟩⟩
        have sM := same_upd (o := .lst []) nM
        have sP := same_upd (o := .tup [V.non, V.ref M]) np
        exact k p _ ((But.set (.of (.refl _))).trans (.of (sM.trans sP))) ((sM.trans sP) _ _ upd_same) ⟨M, upd_same, sP _ _ upd_same⟩
theorem ok_law_empties_right {f : Addr} {fd : FuncData} (F : Fun K "_law_empties_right" "_law_empties_right" s_law_empties_right f fd) (T : Top K mg D) (c_B_empties : Mt P w K mg base 3 D.C "empties" (sp_B_empties K D)) (c_law_is_cells : Cl P w K mg base 2 "_law_is_cells" (sp_law_is_cells K D)) : FnOk P w K mg base (L2.CX P w) 4 f fd ["board", "rows", "columns", "owners"] (sp_law_empties_right K D) := by
  refine ofX0 (F.ok sc_law_empties_right (fun vs H Q E h => ?_) (fun cdv A outer s H vs Q E hr h => ?_))
  · obtain ⟨b, d, R, C, kv, o, rfl, hh⟩ := h
    rfl
  · obtain ⟨b, d, R, C, kv, o, rfl, hh⟩ := h
    have hu := hu_of hr
    refine ⟨_, (pss_cons (ps_set (i := 4) sc_law_empties_right.nd rfl (by first | exact Or.inl rfl | exact Or.inr rfl) (pe_lst pa_nil))
      (pss_cons (ps_for PassesOwn.never rfl (pi_range1 (by rfl) T.range (pa_cons (pv 1) pa_nil)) (pg_name (i := 5) sc_law_empties_right.nd rfl (by first | exact Or.inl rfl | exact Or.inr rfl)) (pss_one (ps_for PassesOwn.never rfl (pi_range1 (by rfl) T.range (pa_cons (pv 2) pa_nil)) (pg_name (i := 6) sc_law_empties_right.nd rfl (by first | exact Or.inl rfl | exact Or.inr rfl)) (pss_one (ps_if (pt_cmp (pc_dnotin hu (pe_tup (pa_cons (pv 5) (pa_cons (pv 6) pa_nil))) (pv 3))) (pss_one (ps_expr (pe_bm PySem.F.plainAttrs_list PySem.F.slot_list_append PySem.F.type_list_append mt_append (pv 4) (pa_cons (pe_tup (pa_cons (pv 5) (pa_cons (pv 6) pa_nil))) pa_nil)))) pss_nil)))))
      (pss_cons (ps_set (i := 7) sc_law_empties_right.nd rfl (by first | exact Or.inl rfl | exact Or.inr rfl) (pe_mth0 c_B_empties T.cl (pv 0) hr passL))
      (pss_cons (ps_if (PW.pt (pw_or (pt_not (pt_val (pe_cl c_law_is_cells hr passL (pa_cons (pv 7) (pa_cons (pv 1) (pa_cons (pv 2) pa_nil)))))) (pw_or1 (pt_cmpR (op_neD hr.units) (pv 7) (pv 4) (nomark _))))) (pss_one (ps_ret pe_bl)) pss_nil)
      (pss_cons (ps_expr (pe_bm PySem.F.plainAttrs_list PySem.F.slot_list_append PySem.F.type_list_append mt_append (pv 7) (pa_cons (pe_tup (pa_cons pe_int (pa_cons pe_int pa_nil))) pa_nil)))
      (pss_one (ps_ret pe_bl))))))), ?_⟩
    obtain ⟨S, hO, k⟩ := hh
    obtain ⟨⟨dx, hb⟩, hd, hk⟩ := id S
    have r1 := hk.r1; have r2 := hk.r2; have c1 := hk.c1; have c2 := hk.c2
    refine ⟨szl, fun L nL => ?_⟩
    have s1 : Same H (upd H L (.lst [])) := same_upd nL
    refine ⟨_, rfl, R, rfl, by omega, by omega, for_range (lo := 0) (n := R.toNat) (fun i σ H2 => ∃ v5 v6 vs, σ = [some (.ref b), some (.int R), some (.int C), some (.ref o), some (.ref L), v5, v6, none] ∧ Same H H2 ∧ H2 L = some (.lst vs) ∧ Cells H2 vs ((cellsN i C.toNat).filter fun z => (lk kv z).isNone)) ⟨none, none, [], rfl, s1, upd_same, .nil⟩ ?_ ?_⟩
    · rintro i σ H2 hi ⟨v5, v6, vs, rfl, s2, hL2, hc⟩
      refine ⟨_, rfl, C, rfl, by omega, by omega, for_range (lo := 0) (n := C.toNat) (fun j σ H3 => ∃ v6 vs, σ = [some (.ref b), some (.int R), some (.int C), some (.ref o), some (.ref L), some (.int (0 + (i : Int))), v6, none] ∧ Same H H3 ∧ H3 L = some (.lst vs) ∧ Cells H3 vs ((cellsN i C.toNat ++ (List.range j).map fun (c : Nat) => (((i : Nat) : Int), ((c : Nat) : Int))).filter fun z => (lk kv z).isNone)) ⟨v6, vs, rfl, s2, hL2, by rw [List.range_zero, List.map_nil, List.append_nil]; exact hc⟩ ?_ ?_⟩
      · rintro j σ H3 hj ⟨v6', vs3, rfl, s3, hL3, hc3⟩
        have hlen := paired_len hc3
        have hn : (cellsN i C.toNat).length ≤ 100 := by
          have := cells_len (i : Int) C
          unfold cells at this
          rw [show ((i : Int)).toNat = i from Int.toNat_natCast i] at this
          rw [this]
          exact Nat.mul_le_mul (by omega : i ≤ 10) (by omega : C.toNat ≤ 10)
        have hvl : vs3.length ≤ 200 := by
          rw [hlen]
          refine Nat.le_trans (List.length_filter_le _ _) ?_
          rw [List.length_append, List.length_map, List.length_range]
          omega
        have hsn : (cellsN i C.toNat ++ (List.range (j + 1)).map fun (c : Nat) => (((i : Nat) : Int), ((c : Nat) : Int))).filter (fun z => (lk kv z).isNone) = (cellsN i C.toNat ++ (List.range j).map fun (c : Nat) => (((i : Nat) : Int), ((c : Nat) : Int))).filter (fun z => (lk kv z).isNone) ++ (if (lk kv ((i : Int), (j : Int))).isNone = true then [((i : Int), (j : Int))] else []) := by
          rw [List.range_succ, List.map_append, ← List.append_assoc, List.filter_append]
          congr 1
          show List.filter _ [((i : Int), (j : Int))] = _
          rw [List.filter_cons, List.filter_nil]
        refine ⟨_, rfl, _, rfl, szl, fun p np => ?_⟩
        have sp := same_upd (o := .tup [V.int (0 + (i : Int)), V.int (0 + (j : Int))]) np
        refine ⟨_, rfl, o, _, rfl, DGet.t (k := key ((i : Int), (j : Int))) ((s3.trans sp) _ _ hO) (by rw [upd_same, Int.zero_add, Int.zero_add]; rfl), _, rfl, ?_⟩
        rw [val_dk]
        cases e : lk kv ((i : Int), (j : Int)) with
        | some z =>
          refine if_f rfl ⟨_, vs3, rfl, s3.trans sp, sp _ _ hL3, ?_⟩
          rw [hsn, e, if_neg (by exact Bool.false_ne_true), List.append_nil]
          exact hc3.same sp
        | none =>
          refine if_t rfl ?_
          refine ⟨_, rfl, .inl ⟨rfl, _, SqL.of (sp _ _ hL3)⟩, _, rfl, _, rfl, szl, fun p2 np2 => ?_⟩
          have sp2 := same_upd (o := .tup [V.int (0 + (i : Int)), V.int (0 + (j : Int))]) np2
          refine ⟨L, vs3, V.ref p2, rfl, rfl, sp2 _ _ (sp _ _ hL3), small100 (by omega), ?_⟩
          refine ⟨_, vs3 ++ [V.ref p2], rfl, same_set ((s3.trans sp).trans sp2) nL, upd_same, ?_⟩
          rw [hsn, e, if_pos (show (none : Option Int).isNone = true from rfl)]
          refine cells_snoc (c := ((i : Int), (j : Int))) ((hc3.same sp).same sp2) (sp2 _ _ (sp _ _ hL3)) (lst_ntup _) ?_ _
          rw [upd_same, Int.zero_add, Int.zero_add]
      · rintro σ H3 ⟨v6', vs3, rfl, s3, hL3, hc3⟩
        refine ⟨_, _, vs3, rfl, s3, hL3, ?_⟩
        unfold cellsN at hc3 ⊢
        rw [List.range_succ, List.flatMap_append]
        rw [show List.flatMap (fun (r : Nat) => (List.range C.toNat).map fun (c : Nat) => (((r : Nat) : Int), ((c : Nat) : Int))) [i] = (List.range C.toNat).map fun (c : Nat) => (((i : Nat) : Int), ((c : Nat) : Int)) by simp]
        exact hc3
    · rintro σ H2 ⟨v5, v6, vs, rfl, s2, hL2, hc⟩
      have hc : Cells H2 vs (empt R C kv) := hc
      refine ⟨_, rfl, b, dx, _, rfl, s2 _ _ hb, fl_no _ _ _ (by decide +kernel) (by decide +kernel) (by decide +kernel), b, d, R, C, kv, rfl, S.same s2, fun F us H3 s3 nF hF hcF => ?_⟩
      refine ⟨_, rfl, _, rfl, _, rfl, F, us, empt R C kv, R, C, rfl, hF, hcF, fun z m => (mem_empt.mp m).1, true, rfl, ?_⟩
      refine ⟨_, rfl, _, rfl, clist (empt R C kv), clist (empt R C kv), dp_cells (SqL.of hF) hcF, dp_cells (SqL.of (s3 _ _ hL2)) (hc.same s3), sh_cl _, sh_cl _, _, rfl, ?_⟩
      rw [eqv_cl, decide_eq_true rfl]
      refine if_f rfl ?_
      refine ⟨_, rfl, .inl ⟨rfl, _, SqL.of hF⟩, szl, fun p np => ?_⟩
      have sp := same_upd (o := .tup [V.int 0, V.int 0]) np
      refine ⟨F, us, .ref p, rfl, rfl, sp _ _ hF, small100 (by rw [paired_len hcF]; exact Nat.le_trans (empt_len hk.r2 hk.c2 kv) (by decide)), ?_⟩
      exact k _ (same_set ((s2.trans s3).trans sp) (s2.free nF))
theorem ok_law_no_board {f : Addr} {fd : FuncData} (F : Fun K "_law_no_board" "_law_no_board" s_law_no_board f fd) (T : Top K mg D) (x_NoBoard : XC K mg "NoBoard" D.eNoBoard) (m_NoBoard : PySem.W.exmOne K (.ref D.eNoBoard) (.ref D.eNoBoard) = some true) (c_B_init : Mkr P w K mg base 1 "Board" D.C (sp_B_init K D)) : FnOk P w K mg base (L2.CX P w) 3 f fd ["rows", "columns"] (sp_law_no_board K D) := by
  refine ofX0 (F.ok sc_law_no_board (fun vs H Q E h => ?_) (fun cdv A outer s H vs Q E hr h => ?_))
  · obtain ⟨r0, c0, rfl, hh⟩ := h
    rfl
  · obtain ⟨r0, c0, rfl, hh⟩ := h
    refine ⟨_, (pss_cons (ps_set (i := 2) sc_law_no_board.nd rfl (by first | exact Or.inl rfl | exact Or.inr rfl) pe_bl)
      (pss_cons (ps_try_only rfl rfl ⟨by rfl, by decide, .inl x_NoBoard.g⟩ takes0 (fun W pn xe tk _ => (pss_one (ps_expr (pe_mkrS c_B_init hr (fun σ => passAt tk σ) (pa_cons (pv 0) (pa_cons (pv 1) pa_nil)))))) (fun a oe cls d pn _ _ => (pss_one (ps_set (i := 2) sc_law_no_board.nd rfl (by first | exact Or.inl rfl | exact Or.inr rfl) pe_bl))))
      (pss_one (ps_ret (pv 2))))), ?_⟩
    obtain ⟨hz, k⟩ := hh
    refine ⟨_, rfl, _, rfl, fun b dx nb ndx hne => ⟨b, dx, r0, c0, rfl, upd_same, fun _ => ?_, fun e => absurd e hz⟩⟩
    refine ⟨true, m_NoBoard, fun _ a na => ?_, fun q => nomatch q⟩
    refine ⟨_, rfl, k _ fun x u e => ?_⟩
    rw [upd_ne (ne_of_none e nb), upd_ne (ne_of_none e ndx)]
    exact e
theorem ok_law_did {f : Addr} {fd : FuncData} (F : Fun K "_law_did" "_law_did" s_law_did f fd) (T : Top K mg D) (x_BoardError : XC K mg "BoardError" D.eBoardError) (x_NoCell : XC K mg "NoCell" D.eNoCell) (x_NoHand : XC K mg "NoHand" D.eNoHand) (x_CellTaken : XC K mg "CellTaken" D.eCellTaken) (x_CellEmpty : XC K mg "CellEmpty" D.eCellEmpty) (x_NoBoard : XC K mg "NoBoard" D.eNoBoard) (m_NoCell : PySem.W.exmOne K (.ref D.eNoCell) (.ref D.eBoardError) = some true) (q_NoCell : ExcC K D.eNoCell) (i_NoCell_NoCell : PySem.W.kitOne K (.ref D.eNoCell) (.ref D.eNoCell) = some true) (i_NoCell_NoHand : PySem.W.kitOne K (.ref D.eNoCell) (.ref D.eNoHand) = some false) (i_NoCell_CellTaken : PySem.W.kitOne K (.ref D.eNoCell) (.ref D.eCellTaken) = some false) (i_NoCell_CellEmpty : PySem.W.kitOne K (.ref D.eNoCell) (.ref D.eCellEmpty) = some false) (i_NoCell_NoBoard : PySem.W.kitOne K (.ref D.eNoCell) (.ref D.eNoBoard) = some false) (i_NoCell_ValueError : PySem.W.kitOne K (.ref D.eNoCell) (.type "ValueError") = some true) (m_NoHand : PySem.W.exmOne K (.ref D.eNoHand) (.ref D.eBoardError) = some true) (q_NoHand : ExcC K D.eNoHand) (i_NoHand_NoCell : PySem.W.kitOne K (.ref D.eNoHand) (.ref D.eNoCell) = some false) (i_NoHand_NoHand : PySem.W.kitOne K (.ref D.eNoHand) (.ref D.eNoHand) = some true) (i_NoHand_CellTaken : PySem.W.kitOne K (.ref D.eNoHand) (.ref D.eCellTaken) = some false) (i_NoHand_CellEmpty : PySem.W.kitOne K (.ref D.eNoHand) (.ref D.eCellEmpty) = some false) (i_NoHand_NoBoard : PySem.W.kitOne K (.ref D.eNoHand) (.ref D.eNoBoard) = some false) (i_NoHand_ValueError : PySem.W.kitOne K (.ref D.eNoHand) (.type "ValueError") = some true) (m_CellTaken : PySem.W.exmOne K (.ref D.eCellTaken) (.ref D.eBoardError) = some true) (q_CellTaken : ExcC K D.eCellTaken) (i_CellTaken_NoCell : PySem.W.kitOne K (.ref D.eCellTaken) (.ref D.eNoCell) = some false) (i_CellTaken_NoHand : PySem.W.kitOne K (.ref D.eCellTaken) (.ref D.eNoHand) = some false) (i_CellTaken_CellTaken : PySem.W.kitOne K (.ref D.eCellTaken) (.ref D.eCellTaken) = some true) (i_CellTaken_CellEmpty : PySem.W.kitOne K (.ref D.eCellTaken) (.ref D.eCellEmpty) = some false) (i_CellTaken_NoBoard : PySem.W.kitOne K (.ref D.eCellTaken) (.ref D.eNoBoard) = some false) (i_CellTaken_ValueError : PySem.W.kitOne K (.ref D.eCellTaken) (.type "ValueError") = some true) (m_CellEmpty : PySem.W.exmOne K (.ref D.eCellEmpty) (.ref D.eBoardError) = some true) (q_CellEmpty : ExcC K D.eCellEmpty) (i_CellEmpty_NoCell : PySem.W.kitOne K (.ref D.eCellEmpty) (.ref D.eNoCell) = some false) (i_CellEmpty_NoHand : PySem.W.kitOne K (.ref D.eCellEmpty) (.ref D.eNoHand) = some false) (i_CellEmpty_CellTaken : PySem.W.kitOne K (.ref D.eCellEmpty) (.ref D.eCellTaken) = some false) (i_CellEmpty_CellEmpty : PySem.W.kitOne K (.ref D.eCellEmpty) (.ref D.eCellEmpty) = some true) (i_CellEmpty_NoBoard : PySem.W.kitOne K (.ref D.eCellEmpty) (.ref D.eNoBoard) = some false) (i_CellEmpty_ValueError : PySem.W.kitOne K (.ref D.eCellEmpty) (.type "ValueError") = some true) (c_B_lift : Mt P w K mg base 3 D.C "lift" (sp_B_lift K D)) (c_B_owner : Mt P w K mg base 3 D.C "owner" (sp_B_owner K D)) (c_B_put : Mt P w K mg base 3 D.C "put" (sp_B_put K D)) : FnOk P w K mg base (L2.CX P w) 4 f fd ["board", "kind", "cell", "hand"] (sp_law_did K D) := by
  refine ofX0 (F.ok sc_law_did (fun vs H Q E h => ?_) (fun cdv A outer s H vs Q E hr h => ?_))
  · obtain ⟨b, d, R, C, kv, kd, v, c, h0, rfl, hh⟩ := h
    rfl
  · obtain ⟨b, d, R, C, kv, kd, v, c, h0, rfl, hh⟩ := h
    refine ⟨_, (pss_cons (ps_set (i := 4) sc_law_did.nd rfl (by first | exact Or.inl rfl | exact Or.inr rfl) pe_non)
      (pss_cons (ps_set (i := 5) sc_law_did.nd rfl (by first | exact Or.inl rfl | exact Or.inr rfl) (pe_lst pa_nil))
      (pss_cons (ps_try_as (i := 6) rfl rfl sc_law_did.nd rfl rfl ⟨by rfl, by decide, .inl x_BoardError.g⟩ takes0 (fun W pn xe tk _ => (pss_one (ps_if (pt_cmpR op_eq (pv 1) pe_int (nomark _)) (pss_one (ps_set (i := 4) sc_law_did.nd rfl (by first | exact Or.inl rfl | exact Or.inr rfl) (pe_mthS c_B_lift T.cl (pv 0) hr (fun σ => passAt tk σ) (pa_cons (pv 2) pa_nil)))) (pss_one (ps_if (pt_cmpR op_eq (pv 1) pe_int (nomark _)) (pss_one (ps_set (i := 4) sc_law_did.nd rfl (by first | exact Or.inl rfl | exact Or.inr rfl) (pe_mthS c_B_owner T.cl (pv 0) hr (fun σ => passAt tk σ) (pa_cons (pv 2) pa_nil)))) (pss_one (ps_set (i := 4) sc_law_did.nd rfl (by first | exact Or.inl rfl | exact Or.inr rfl) (pe_mthS c_B_put T.cl (pv 0) hr (fun σ => passAt tk σ) (pa_cons (pv 2) (pa_cons (pv 3) pa_nil)))))))))) (fun a oe cls d pn hz hf => (pss_cons (ps_set (i := 5) sc_law_did.nd rfl (by first | exact Or.inl rfl | exact Or.inr rfl) (pe_lst (pa_cons (pe_callB (id := "isinstance") (call_isX K hz hf) (by rfl) T.isinstance (by decide +kernel) (pa_cons (pv 6) (pa_cons (pe_glob (v := V.ref D.eNoCell) (by rfl) x_NoCell.g rfl) pa_nil))) (pa_cons (pe_callB (id := "isinstance") (call_isX K hz hf) (by rfl) T.isinstance (by decide +kernel) (pa_cons (pv 6) (pa_cons (pe_glob (v := V.ref D.eNoHand) (by rfl) x_NoHand.g rfl) pa_nil))) (pa_cons (pe_callB (id := "isinstance") (call_isX K hz hf) (by rfl) T.isinstance (by decide +kernel) (pa_cons (pv 6) (pa_cons (pe_glob (v := V.ref D.eCellTaken) (by rfl) x_CellTaken.g rfl) pa_nil))) (pa_cons (pe_callB (id := "isinstance") (call_isX K hz hf) (by rfl) T.isinstance (by decide +kernel) (pa_cons (pv 6) (pa_cons (pe_glob (v := V.ref D.eCellEmpty) (by rfl) x_CellEmpty.g rfl) pa_nil))) pa_nil))))))
          (pss_one (ps_set (i := 5) sc_law_did.nd rfl (by first | exact Or.inl rfl | exact Or.inr rfl) (pe_op op_cat (pv 5) (pe_lst (pa_cons (pe_callB (id := "isinstance") (call_isX K hz hf) (by rfl) T.isinstance (by decide +kernel) (pa_cons (pv 6) (pa_cons (pe_glob (v := V.ref D.eNoBoard) (by rfl) x_NoBoard.g rfl) pa_nil))) (pa_cons (pe_not (pe_callB (id := "isinstance") (call_isX K hz hf) (by rfl) T.isinstance (by decide +kernel) (pa_cons (pv 6) (pa_cons (pe_ty (n := "ValueError") T.ValueError (by decide +kernel)) pa_nil)))) pa_nil)))))))))
      (pss_one (ps_ret (pe_tup (pa_cons (pv 4) (pa_cons (pv 5) pa_nil)))))))), ?_⟩
    obtain ⟨hv, S, k0⟩ := hh
    obtain ⟨⟨dx, hb⟩, hd, hk⟩ := id S
    refine ⟨szl, fun L nL => ?_⟩
    have s1 : Same H (upd H L (.lst [])) := same_upd nL
    have S1 := S.same s1
    have hv1 := hv.same s1
    have hLd : L ≠ d := (ne_of_none hd nL).symm
    refine ⟨_, rfl, rfl, _, rfl, ifI (fun e => ?_) (fun e => ?_)⟩
    · refine ⟨_, rfl, b, dx, _, rfl, s1 _ _ hb, fl_no _ _ _ (by decide +kernel) (by decide +kernel) (by decide +kernel), _, rfl, b, d, R, C, kv, v, c, rfl, S1, hv1, fun hB => ?_, fun hB hn => ?_, fun hB hn => ?_⟩
      · have k := k0
        rw [deed_out hB] at k
        refine ⟨true, m_NoCell, fun _ a na => ?_, fun q => nomatch q⟩
        refine ⟨_, rfl, D.eNoCell, rfl, rfl, q_NoCell, _, _, true, rfl, fun u r => r, i_NoCell_NoCell, ?_⟩
        refine ⟨_, rfl, D.eNoCell, rfl, rfl, q_NoCell, _, _, false, rfl, fun u r => r, i_NoCell_NoHand, ?_⟩
        refine ⟨_, rfl, D.eNoCell, rfl, rfl, q_NoCell, _, _, false, rfl, fun u r => r, i_NoCell_CellTaken, ?_⟩
        refine ⟨_, rfl, D.eNoCell, rfl, rfl, q_NoCell, _, _, false, rfl, fun u r => r, i_NoCell_CellEmpty, ?_⟩
        refine ⟨szl, fun M nM => ?_⟩
        have sM := same_upd (o := .lst [V.bl true, V.bl false, V.bl false, V.bl false]) nM
        refine ⟨_, rfl, _, rfl, D.eNoCell, rfl, rfl, q_NoCell, _, _, false, rfl, fun u r => r, i_NoCell_NoBoard, ?_⟩
        refine ⟨_, rfl, D.eNoCell, rfl, rfl, q_NoCell, _, _, true, rfl, fun u r => r, i_NoCell_ValueError, true, rfl, ?_⟩
        refine ⟨szl, fun M2 nM2 => ?_⟩
        have sM2 := same_upd (o := .lst [V.bl false, V.bl false]) nM2
        refine ⟨M, M2, _, _, rfl, rfl, sM2 _ _ upd_same, upd_same, (by show 4 + 2 ≤ sizeLine; decide), fun M3 nM3 => ?_⟩
        have sM3 := same_upd (o := .lst ([V.bl true, V.bl false, V.bl false, V.bl false] ++ [V.bl false, V.bl false])) nM3
        refine ⟨_, rfl, _, rfl, szl, fun p np => ?_⟩
        have sP := same_upd (o := .tup [V.non, V.ref M3]) np
        have sAll := s1.trans (sM.trans (sM2.trans (sM3.trans sP)))
        exact k p _ (.of sAll) (S.same sAll) ⟨M3, upd_same, sP _ _ upd_same⟩
      · have k := k0
        rw [deed_lift_no hB e hn] at k
        refine ⟨true, m_CellEmpty, fun _ a na => ?_, fun q => nomatch q⟩
        refine ⟨_, rfl, D.eCellEmpty, rfl, rfl, q_CellEmpty, _, _, false, rfl, fun u r => r, i_CellEmpty_NoCell, ?_⟩
        refine ⟨_, rfl, D.eCellEmpty, rfl, rfl, q_CellEmpty, _, _, false, rfl, fun u r => r, i_CellEmpty_NoHand, ?_⟩
        refine ⟨_, rfl, D.eCellEmpty, rfl, rfl, q_CellEmpty, _, _, false, rfl, fun u r => r, i_CellEmpty_CellTaken, ?_⟩
        refine ⟨_, rfl, D.eCellEmpty, rfl, rfl, q_CellEmpty, _, _, true, rfl, fun u r => r, i_CellEmpty_CellEmpty, ?_⟩
        refine ⟨szl, fun M nM => ?_⟩
        have sM := same_upd (o := .lst [V.bl false, V.bl false, V.bl false, V.bl true]) nM
        refine ⟨_, rfl, _, rfl, D.eCellEmpty, rfl, rfl, q_CellEmpty, _, _, false, rfl, fun u r => r, i_CellEmpty_NoBoard, ?_⟩
        refine ⟨_, rfl, D.eCellEmpty, rfl, rfl, q_CellEmpty, _, _, true, rfl, fun u r => r, i_CellEmpty_ValueError, true, rfl, ?_⟩
        refine ⟨szl, fun M2 nM2 => ?_⟩
        have sM2 := same_upd (o := .lst [V.bl false, V.bl false]) nM2
        refine ⟨M, M2, _, _, rfl, rfl, sM2 _ _ upd_same, upd_same, (by show 4 + 2 ≤ sizeLine; decide), fun M3 nM3 => ?_⟩
        have sM3 := same_upd (o := .lst ([V.bl false, V.bl false, V.bl false, V.bl true] ++ [V.bl false, V.bl false])) nM3
        refine ⟨_, rfl, _, rfl, szl, fun p np => ?_⟩
        have sP := same_upd (o := .tup [V.non, V.ref M3]) np
        have sAll := s1.trans (sM.trans (sM2.trans (sM3.trans sP)))
        exact k p _ (.of sAll) (S.same sAll) ⟨M3, upd_same, sP _ _ upd_same⟩
      · have k := k0
        rw [deed_lift hB e hn] at k
        refine ⟨_, rfl, _, rfl, szl, fun p np => ?_⟩
        have sP := same_upd (o := .tup [V.non, V.ref L]) np
        exact k p _ (((But.of s1).set).trans (.of sP)) ((S1.set (hk.lift c)).same sP) ⟨L, upd_same, sP _ _ (by unfold setD; rw [upd_ne hLd]; exact upd_same)⟩
    refine ⟨_, rfl, rfl, _, rfl, ifI (fun e5 => ?_) (fun e5 => ?_)⟩
    · refine ⟨_, rfl, b, dx, _, rfl, s1 _ _ hb, fl_no _ _ _ (by decide +kernel) (by decide +kernel) (by decide +kernel), _, rfl, b, d, R, C, kv, v, c, rfl, S1, hv1, fun hB => ?_, fun hB => ?_⟩
      · have k := k0
        rw [deed_out hB] at k
        refine ⟨true, m_NoCell, fun _ a na => ?_, fun q => nomatch q⟩
        refine ⟨_, rfl, D.eNoCell, rfl, rfl, q_NoCell, _, _, true, rfl, fun u r => r, i_NoCell_NoCell, ?_⟩
        refine ⟨_, rfl, D.eNoCell, rfl, rfl, q_NoCell, _, _, false, rfl, fun u r => r, i_NoCell_NoHand, ?_⟩
        refine ⟨_, rfl, D.eNoCell, rfl, rfl, q_NoCell, _, _, false, rfl, fun u r => r, i_NoCell_CellTaken, ?_⟩
        refine ⟨_, rfl, D.eNoCell, rfl, rfl, q_NoCell, _, _, false, rfl, fun u r => r, i_NoCell_CellEmpty, ?_⟩
        refine ⟨szl, fun M nM => ?_⟩
        have sM := same_upd (o := .lst [V.bl true, V.bl false, V.bl false, V.bl false]) nM
        refine ⟨_, rfl, _, rfl, D.eNoCell, rfl, rfl, q_NoCell, _, _, false, rfl, fun u r => r, i_NoCell_NoBoard, ?_⟩
        refine ⟨_, rfl, D.eNoCell, rfl, rfl, q_NoCell, _, _, true, rfl, fun u r => r, i_NoCell_ValueError, true, rfl, ?_⟩
        refine ⟨szl, fun M2 nM2 => ?_⟩
        have sM2 := same_upd (o := .lst [V.bl false, V.bl false]) nM2
        refine ⟨M, M2, _, _, rfl, rfl, sM2 _ _ upd_same, upd_same, (by show 4 + 2 ≤ sizeLine; decide), fun M3 nM3 => ?_⟩
        have sM3 := same_upd (o := .lst ([V.bl true, V.bl false, V.bl false, V.bl false] ++ [V.bl false, V.bl false])) nM3
        refine ⟨_, rfl, _, rfl, szl, fun p np => ?_⟩
        have sP := same_upd (o := .tup [V.non, V.ref M3]) np
        have sAll := s1.trans (sM.trans (sM2.trans (sM3.trans sP)))
        exact k p _ (.of sAll) (S.same sAll) ⟨M3, upd_same, sP _ _ upd_same⟩
      · have k := k0
        rw [deed_own hB e e5] at k
        refine ⟨_, rfl, _, rfl, szl, fun p np => ?_⟩
        have sP := same_upd (o := .tup [V.int (ow kv c), V.ref L]) np
        exact k p _ (.of (s1.trans sP)) (S1.same sP) ⟨L, upd_same, sP _ _ upd_same⟩
    · refine ⟨_, rfl, b, dx, _, rfl, s1 _ _ hb, fl_no _ _ _ (by decide +kernel) (by decide +kernel) (by decide +kernel), _, rfl, _, rfl, b, d, R, C, kv, v, c, h0, rfl, S1, hv1, fun hB => ?_, fun hB hH => ?_, fun hB hH hn => ?_, fun hB hH hn => ?_⟩
      · have k := k0
        rw [deed_out hB] at k
        refine ⟨true, m_NoCell, fun _ a na => ?_, fun q => nomatch q⟩
        refine ⟨_, rfl, D.eNoCell, rfl, rfl, q_NoCell, _, _, true, rfl, fun u r => r, i_NoCell_NoCell, ?_⟩
        refine ⟨_, rfl, D.eNoCell, rfl, rfl, q_NoCell, _, _, false, rfl, fun u r => r, i_NoCell_NoHand, ?_⟩
        refine ⟨_, rfl, D.eNoCell, rfl, rfl, q_NoCell, _, _, false, rfl, fun u r => r, i_NoCell_CellTaken, ?_⟩
        refine ⟨_, rfl, D.eNoCell, rfl, rfl, q_NoCell, _, _, false, rfl, fun u r => r, i_NoCell_CellEmpty, ?_⟩
        refine ⟨szl, fun M nM => ?_⟩
        have sM := same_upd (o := .lst [V.bl true, V.bl false, V.bl false, V.bl false]) nM
        refine ⟨_, rfl, _, rfl, D.eNoCell, rfl, rfl, q_NoCell, _, _, false, rfl, fun u r => r, i_NoCell_NoBoard, ?_⟩
        refine ⟨_, rfl, D.eNoCell, rfl, rfl, q_NoCell, _, _, true, rfl, fun u r => r, i_NoCell_ValueError, true, rfl, ?_⟩
        refine ⟨szl, fun M2 nM2 => ?_⟩
        have sM2 := same_upd (o := .lst [V.bl false, V.bl false]) nM2
        refine ⟨M, M2, _, _, rfl, rfl, sM2 _ _ upd_same, upd_same, (by show 4 + 2 ≤ sizeLine; decide), fun M3 nM3 => ?_⟩
        have sM3 := same_upd (o := .lst ([V.bl true, V.bl false, V.bl false, V.bl false] ++ [V.bl false, V.bl false])) nM3
        refine ⟨_, rfl, _, rfl, szl, fun p np => ?_⟩
        have sP := same_upd (o := .tup [V.non, V.ref M3]) np
        have sAll := s1.trans (sM.trans (sM2.trans (sM3.trans sP)))
        exact k p _ (.of sAll) (S.same sAll) ⟨M3, upd_same, sP _ _ upd_same⟩
      · have k := k0
        rw [deed_hand hB e e5 hH] at k
        refine ⟨true, m_NoHand, fun _ a na => ?_, fun q => nomatch q⟩
        refine ⟨_, rfl, D.eNoHand, rfl, rfl, q_NoHand, _, _, false, rfl, fun u r => r, i_NoHand_NoCell, ?_⟩
        refine ⟨_, rfl, D.eNoHand, rfl, rfl, q_NoHand, _, _, true, rfl, fun u r => r, i_NoHand_NoHand, ?_⟩
        refine ⟨_, rfl, D.eNoHand, rfl, rfl, q_NoHand, _, _, false, rfl, fun u r => r, i_NoHand_CellTaken, ?_⟩
        refine ⟨_, rfl, D.eNoHand, rfl, rfl, q_NoHand, _, _, false, rfl, fun u r => r, i_NoHand_CellEmpty, ?_⟩
        refine ⟨szl, fun M nM => ?_⟩
        have sM := same_upd (o := .lst [V.bl false, V.bl true, V.bl false, V.bl false]) nM
        refine ⟨_, rfl, _, rfl, D.eNoHand, rfl, rfl, q_NoHand, _, _, false, rfl, fun u r => r, i_NoHand_NoBoard, ?_⟩
        refine ⟨_, rfl, D.eNoHand, rfl, rfl, q_NoHand, _, _, true, rfl, fun u r => r, i_NoHand_ValueError, true, rfl, ?_⟩
        refine ⟨szl, fun M2 nM2 => ?_⟩
        have sM2 := same_upd (o := .lst [V.bl false, V.bl false]) nM2
        refine ⟨M, M2, _, _, rfl, rfl, sM2 _ _ upd_same, upd_same, (by show 4 + 2 ≤ sizeLine; decide), fun M3 nM3 => ?_⟩
        have sM3 := same_upd (o := .lst ([V.bl false, V.bl true, V.bl false, V.bl false] ++ [V.bl false, V.bl false])) nM3
        refine ⟨_, rfl, _, rfl, szl, fun p np => ?_⟩
        have sP := same_upd (o := .tup [V.non, V.ref M3]) np
        have sAll := s1.trans (sM.trans (sM2.trans (sM3.trans sP)))
        exact k p _ (.of sAll) (S.same sAll) ⟨M3, upd_same, sP _ _ upd_same⟩
      · have k := k0
        rw [deed_taken hB e e5 hH hn] at k
        refine ⟨true, m_CellTaken, fun _ a na => ?_, fun q => nomatch q⟩
        refine ⟨_, rfl, D.eCellTaken, rfl, rfl, q_CellTaken, _, _, false, rfl, fun u r => r, i_CellTaken_NoCell, ?_⟩
        refine ⟨_, rfl, D.eCellTaken, rfl, rfl, q_CellTaken, _, _, false, rfl, fun u r => r, i_CellTaken_NoHand, ?_⟩
        refine ⟨_, rfl, D.eCellTaken, rfl, rfl, q_CellTaken, _, _, true, rfl, fun u r => r, i_CellTaken_CellTaken, ?_⟩
        refine ⟨_, rfl, D.eCellTaken, rfl, rfl, q_CellTaken, _, _, false, rfl, fun u r => r, i_CellTaken_CellEmpty, ?_⟩
        refine ⟨szl, fun M nM => ?_⟩
        have sM := same_upd (o := .lst [V.bl false, V.bl false, V.bl true, V.bl false]) nM
        refine ⟨_, rfl, _, rfl, D.eCellTaken, rfl, rfl, q_CellTaken, _, _, false, rfl, fun u r => r, i_CellTaken_NoBoard, ?_⟩
        refine ⟨_, rfl, D.eCellTaken, rfl, rfl, q_CellTaken, _, _, true, rfl, fun u r => r, i_CellTaken_ValueError, true, rfl, ?_⟩
        refine ⟨szl, fun M2 nM2 => ?_⟩
        have sM2 := same_upd (o := .lst [V.bl false, V.bl false]) nM2
        refine ⟨M, M2, _, _, rfl, rfl, sM2 _ _ upd_same, upd_same, (by show 4 + 2 ≤ sizeLine; decide), fun M3 nM3 => ?_⟩
        have sM3 := same_upd (o := .lst ([V.bl false, V.bl false, V.bl true, V.bl false] ++ [V.bl false, V.bl false])) nM3
        refine ⟨_, rfl, _, rfl, szl, fun p np => ?_⟩
        have sP := same_upd (o := .tup [V.non, V.ref M3]) np
        have sAll := s1.trans (sM.trans (sM2.trans (sM3.trans sP)))
        exact k p _ (.of sAll) (S.same sAll) ⟨M3, upd_same, sP _ _ upd_same⟩
      · have k := k0
        rw [deed_put hB e e5 hH hn] at k
        refine ⟨_, rfl, _, rfl, szl, fun p np => ?_⟩
        have sP := same_upd (o := .tup [V.non, V.ref L]) np
        exact k p _ (((But.of s1).set).trans (.of sP)) ((S1.set (hk.put hB hH hn)).same sP) ⟨L, upd_same, sP _ _ (by unfold setD; rw [upd_ne hLd]; exact upd_same)⟩
theorem ok_law {f : Addr} {fd : FuncData} (F : Fun K "law" "law" s_law f fd) (T : Top K mg D) (c_law_cell_at : Cl P w K mg base 1 "_law_cell_at" (sp_law_cell_at K D)) (c_law_no_board : Cl P w K mg base 3 "_law_no_board" (sp_law_no_board K D)) (c_B_init : Mkr P w K mg base 1 "Board" D.C (sp_B_init K D)) (c_law_due : Cl P w K mg base 2 "_law_due" (sp_law_due K D)) (c_law_did : Cl P w K mg base 4 "_law_did" (sp_law_did K D)) (c_law_whole : Cl P w K mg base 1 "_law_whole" (sp_law_whole K D)) (c_law_empties_right : Cl P w K mg base 4 "_law_empties_right" (sp_law_empties_right K D)) (c_B_rows : Mt P w K mg base 1 D.C "rows" (sp_B_rows K D)) (c_B_columns : Mt P w K mg base 1 D.C "columns" (sp_B_columns K D)) : FnOk P w K mg base (L2.CX P w) 5 f fd ["script"] (sp_law K D) := by
  refine ofX0 (F.ok sc_law (fun vs H Q E h => ?_) (fun cdv A outer s H vs Q E hr h => ?_))
  · obtain ⟨a, ns, rfl, hh⟩ := h
    rfl
  · obtain ⟨a, ns, rfl, hh⟩ := h
    refine ⟨_, (pss_cons (ps_set (i := 1) sc_law.nd rfl (by first | exact Or.inl rfl | exact Or.inr rfl) (pe_cl c_law_cell_at hr passL (pa_cons (pv 0) (pa_cons pe_int pa_nil))))
      (pss_cons (ps_set (i := 2) sc_law.nd rfl (by first | exact Or.inl rfl | exact Or.inr rfl) (pe_op op_add pe_int (pe_op op_mod (pv 1) pe_int)))
      (pss_cons (ps_set (i := 3) sc_law.nd rfl (by first | exact Or.inl rfl | exact Or.inr rfl) (pe_op op_add pe_int (pe_op op_mod (pe_op op_fdiv (pv 1) pe_int) pe_int)))
      (pss_cons (ps_set (i := 4) sc_law.nd rfl (by first | exact Or.inl rfl | exact Or.inr rfl) (pe_ix ix_list (pe_lst (pa_cons pe_int (pa_cons pe_int (pa_cons (pe_op op_sub (pe_un un_neg pe_int) (pe_op op_mod (pe_op op_fdiv (pv 1) pe_int) pe_int)) (pa_cons (pe_op op_add pe_int (pe_op op_mod (pe_op op_fdiv (pv 1) pe_int) pe_int)) pa_nil))))) (pe_op op_mod (pe_cl c_law_cell_at hr passL (pa_cons (pv 0) (pa_cons pe_int pa_nil))) pe_int) (fun _ _ => rfl)))
      (pss_cons (ps_if (PW.pt (pw_or (pt_not (pt_val (pe_cl c_law_no_board hr passL (pa_cons (pv 4) (pa_cons (pv 3) pa_nil))))) (pw_or1 (pt_not (pt_val (pe_cl c_law_no_board hr passL (pa_cons (pv 2) (pa_cons (pv 4) pa_nil)))))))) (pss_one (ps_ret pe_bl)) pss_nil)
      (pss_cons (ps_set (i := 5) sc_law.nd rfl (by first | exact Or.inl rfl | exact Or.inr rfl) (pe_lst (pa_cons (pe_mkr c_B_init hr passL (pa_cons (pv 2) (pa_cons (pv 3) pa_nil))) (pa_cons (pe_mkr c_B_init hr passL (pa_cons (pv 2) (pa_cons (pv 3) pa_nil))) pa_nil))))
      (pss_cons (ps_set (i := 6) sc_law.nd rfl (by first | exact Or.inl rfl | exact Or.inr rfl) (pe_lst (pa_cons pe_dnewT (pa_cons pe_dnewT pa_nil))))
      (pss_cons (ps_for PassesOwn.never rfl (pi_list (pe_slice sl_list (pv 0) (po_some pe_int) po_none)) (pg_name (i := 7) sc_law.nd rfl (by first | exact Or.inl rfl | exact Or.inr rfl)) (pss_cons (ps_set (i := 8) sc_law.nd rfl (by first | exact Or.inl rfl | exact Or.inr rfl) (pe_op op_mod (pe_op op_fdiv (pv 7) pe_int) pe_int))
        (pss_cons (ps_set (i := 9) sc_law.nd rfl (by first | exact Or.inl rfl | exact Or.inr rfl) (pe_tup (pa_cons (pe_op op_sub (pe_op op_mod (pe_op op_fdiv (pv 7) pe_int) (pe_op op_add (pv 2) pe_int)) pe_int) (pa_cons (pe_op op_sub (pe_op op_mod (pe_op op_fdiv (pv 7) pe_int) (pe_op op_add (pv 3) pe_int)) pe_int) pa_nil))))
        (pss_cons (ps_set (i := 10) sc_law.nd rfl (by first | exact Or.inl rfl | exact Or.inr rfl) (pe_op op_mod (pe_op op_fdiv (pv 7) pe_int) pe_int))
        (pss_cons (ps_if (pt_cmpR op_eq (pe_op op_mod (pe_op op_fdiv (pv 7) pe_int) pe_int) pe_int (nomark _)) (pss_one (ps_set (i := 9) sc_law.nd rfl (by first | exact Or.inl rfl | exact Or.inr rfl) (pe_tup (pa_cons (pe_ix ix_tup (pv 9) pe_int (fun _ _ => rfl)) (pa_cons (pe_ix ix_list (pe_lst (pa_cons (pe_op op_add (pv 3) (pe_op op_mod (pe_op op_fdiv (pv 7) pe_int) pe_int)) (pa_cons (pe_op op_sub (pe_un un_neg pe_int) (pe_op op_mod (pe_op op_fdiv (pv 7) pe_int) pe_int)) pa_nil))) (pe_op op_mod (pe_op op_fdiv (pv 7) pe_int) pe_int) (fun _ _ => rfl)) pa_nil))))) pss_nil)
        (pss_cons (ps_if (pt_cmpR op_eq (pe_op op_mod (pe_op op_fdiv (pv 7) pe_int) pe_int) pe_int (nomark _)) (pss_one (ps_set (i := 10) sc_law.nd rfl (by first | exact Or.inl rfl | exact Or.inr rfl) (pe_ix ix_list (pe_lst (pa_cons (pe_op op_add pe_int (pe_op op_mod (pe_op op_fdiv (pv 7) pe_int) pe_int)) (pa_cons (pe_op op_sub (pe_un un_neg pe_int) (pe_op op_mod (pe_op op_fdiv (pv 7) pe_int) pe_int)) pa_nil))) (pe_op op_mod (pe_op op_fdiv (pv 7) pe_int) pe_int) (fun _ _ => rfl)))) pss_nil)
        (pss_cons (ps_set (i := 11) sc_law.nd rfl (by first | exact Or.inl rfl | exact Or.inr rfl) (pe_op op_mod (pe_op op_fdiv (pv 7) pe_int) pe_int))
        (pss_cons (ps_set (i := 12) sc_law.nd rfl (by first | exact Or.inl rfl | exact Or.inr rfl) (pe_cl c_law_due hr passL (pa_cons (pv 2) (pa_cons (pv 3) (pa_cons (pe_ix ix_list (pv 6) (pv 8) (fun _ _ => rfl)) (pa_cons (pv 11) (pa_cons (pv 9) (pa_cons (pv 10) pa_nil))))))))
        (pss_cons (ps_set (i := 13) sc_law.nd rfl (by first | exact Or.inl rfl | exact Or.inr rfl) (pe_cl c_law_did hr passL (pa_cons (pe_ix ix_list (pv 5) (pv 8) (fun _ _ => rfl)) (pa_cons (pv 11) (pa_cons (pv 9) (pa_cons (pv 10) pa_nil))))))
        (pss_cons (ps_if (PW.pt (pw_or (pt_cmpR (op_neD hr.units) (pe_ix ix_tup (pv 13) pe_int (fun _ _ => rfl)) (pe_ix ix_tup (pv 12) pe_int (fun _ _ => rfl)) (nomark _)) (pw_or1 (PW.pt (pw_and (pt_cmp (pc_isN (pe_ix ix_tup (pv 12) pe_int (fun _ _ => rfl)))) (pw_and1 (pt_cmp (pc_notN (pe_ix ix_tup (pv 13) pe_int (fun _ _ => rfl)))))))))) (pss_one (ps_ret pe_bl)) pss_nil)
        (pss_cons (ps_if (PW.pt (pw_and (pt_cmp (pc_notN (pe_ix ix_tup (pv 12) pe_int (fun _ _ => rfl)))) (pw_and1 (PW.pt (pw_or (pt_not (pt_val (pe_cl c_law_whole hr passL (pa_cons (pe_ix ix_tup (pv 13) pe_int (fun _ _ => rfl)) pa_nil)))) (pw_or1 (pt_cmpR op_ne (pe_ix ix_tup (pv 13) pe_int (fun _ _ => rfl)) (pe_ix ix_tup (pv 12) pe_int (fun _ _ => rfl)) (nomark _)))))))) (pss_one (ps_ret pe_bl)) pss_nil)
        (pss_one (ps_for PassesOwn.never rfl (pi_range1 (by rfl) T.range (pa_cons pe_int pa_nil)) (pg_name (i := 14) sc_law.nd rfl (by first | exact Or.inl rfl | exact Or.inr rfl)) (pss_one (ps_if (pt_not (pt_val (pe_cl c_law_empties_right hr passL (pa_cons (pe_ix ix_list (pv 5) (pv 14) (fun _ _ => rfl)) (pa_cons (pv 2) (pa_cons (pv 3) (pa_cons (pe_ix ix_list (pv 6) (pv 14) (fun _ _ => rfl)) pa_nil))))))) (pss_one (ps_ret pe_bl)) pss_nil)))))))))))))))
      (pss_cons (ps_set (i := 15) sc_law.nd rfl (by first | exact Or.inl rfl | exact Or.inr rfl) (pe_lst (pa_cons (pe_mth0 c_B_rows T.cl (pe_ix ix_list (pv 5) pe_int (fun _ _ => rfl)) hr passL) (pa_cons (pe_mth0 c_B_columns T.cl (pe_ix ix_list (pv 5) pe_int (fun _ _ => rfl)) hr passL) pa_nil))))
      (pss_one (ps_ret (pe_and (pe_cl c_law_whole hr passL (pa_cons (pe_ix ix_list (pv 15) pe_int (fun _ _ => rfl)) pa_nil)) (pe_and (pe_cl c_law_whole hr passL (pa_cons (pe_ix ix_list (pv 15) pe_int (fun _ _ => rfl)) pa_nil)) (pe_one (pe_cmpR (op_eqD hr.units) (pv 15) (pe_lst (pa_cons (pv 2) (pa_cons (pv 3) pa_nil))) (nomark _)))))))))))))))), ?_⟩
    obtain ⟨hS, hlen, k⟩ := hh
    refine ⟨_, rfl, a, ns, 0, rfl, hS, by decide, ?_⟩
    generalize item ns 0 = g
    refine ⟨_, rfl, _, _, rfl, rfl, (by show (0 : Int) < 10; decide), _, _, rfl, rfl, ?_⟩
    refine ⟨_, rfl, _, _, rfl, rfl, ⟨by decide, by decide⟩, _, _, rfl, rfl, (by show (0 : Int) < 10; decide), _, _, rfl, rfl, ?_⟩
    dsimp only
    have hr1 : 1 ≤ 1 + g % 10 ∧ 1 + g % 10 ≤ 10 := by omega
    have hc1 : 1 ≤ 1 + g / 10 % 10 ∧ 1 + g / 10 % 10 ≤ 10 := by omega
    generalize 1 + g % 10 = R at hr1
    generalize 1 + g / 10 % 10 = C at hc1
    have hz : Size R C := ⟨hr1.1, hr1.2, hc1.1, hc1.2⟩
    obtain ⟨x, hx, hor⟩ := pick4 0 11 (-1 - g / 100 % 1000) (11 + g / 100 % 1000) (item ns 1)
    refine ⟨_, rfl, _, rfl, _, _, rfl, rfl, ⟨by decide, by decide⟩, _, _, rfl, rfl, (by show (0 : Int) < 1000; decide), _, _, rfl, rfl, _, rfl, _, _, rfl, rfl, ⟨by decide, by decide⟩, _, _, rfl, rfl, (by show (0 : Int) < 1000; decide), _, _, rfl, rfl, szl, fun L0 nL0 => ?_⟩
    refine ⟨_, rfl, a, ns, 1, rfl, (same_upd nL0).seq hS, by decide, _, _, rfl, rfl, (by show (0 : Int) < 4; decide), L0, _, _, V.int x, rfl, rfl, SqL.of upd_same, hx, ?_⟩
    have hx1 : ¬ Size x C := fun z => by have := z.1; have := z.2.1; omega
    have hx2 : ¬ Size R x := fun z => by have := z.2.2.1; have := z.2.2.2; omega
    refine ⟨_, rfl, _, rfl, x, C, rfl, hx1, fun H1 s1 => ⟨true, rfl, ?_⟩⟩
    refine ⟨_, rfl, _, rfl, R, x, rfl, hx2, fun H2 s2 => ⟨true, rfl, ?_⟩⟩
    have sA := (same_upd nL0).trans (s1.trans s2)
    refine ⟨_, rfl, _, rfl, fun b0 dx0 nb0 ndx0 hne0 => ⟨b0, dx0, R, C, rfl, upd_same, fun e => absurd hz e, fun _ d0 H3 nd0 S0 keep0 => ⟨rfl, ?_⟩⟩⟩
    have s3 := made nb0 ndx0 keep0
    refine ⟨_, rfl, _, rfl, fun b1 dx1 nb1 ndx1 hne1 => ⟨b1, dx1, R, C, rfl, upd_same, fun e => absurd hz e, fun _ d1 H4 nd1 S1 keep1 => ⟨rfl, ?_⟩⟩⟩
    have s4 := made nb1 ndx1 keep1
    have hd01 : d0 ≠ d1 := ne_of_none S0.dc (made_free nd1)
    refine ⟨szl, fun BL nBL => ?_⟩
    have s5 := same_upd (o := .lst [.ref b0, .ref b1]) nBL
    refine fun o0 no0 => ?_
    have s6 := same_upd (o := .dT []) no0
    refine fun o1 no1 => ?_
    have s7 := same_upd (o := .dT []) no1
    refine ⟨szl, fun OL nOL => ?_⟩
    have s8 := same_upd (o := .lst [.ref o0, .ref o1]) nOL
    have t0 : BoardAt D _ b0 d0 R C [] := (((S0.same s4).same s5).same s6).same s7 |>.same s8
    have t1 : BoardAt D _ b1 d1 R C [] := ((S1.same s5).same s6).same s7 |>.same s8
    have ho01 : o0 ≠ o1 := ne_of_none upd_same no1
    have hd0o0 : d0 ≠ o0 := ne_of_none ((S0.same s4).same s5).dc no0
    have hd1o0 : d1 ≠ o0 := ne_of_none (S1.same s5).dc no0
    have hd0o1 : d0 ≠ o1 := ne_of_none (((S0.same s4).same s5).same s6).dc no1
    have hd1o1 : d1 ≠ o1 := ne_of_none ((S1.same s5).same s6).dc no1
    have p0 : OvAt _ o0 [] := (s7.trans s8) _ _ upd_same
    have p1 : OvAt _ o1 [] := s8 _ _ upd_same
    have hBL := (s6.trans (s7.trans s8)) _ _ (upd_same (H := H4) (a := BL) (o := .lst [.ref b0, .ref b1]))
    have hOL := upd_same (H := upd (upd (upd H4 BL (.lst [.ref b0, .ref b1])) o0 (.dT [])) o1 (.dT [])) (a := OL) (o := .lst [.ref o0, .ref o1])
    have s08 := sA.trans (s3.trans (s4.trans (s5.trans (s6.trans (s7.trans s8)))))
    generalize upd (upd (upd (upd H4 BL (.lst [.ref b0, .ref b1])) o0 (.dT [])) o1 (.dT [])) OL (.lst [.ref o0, .ref o1]) = Hs at t0 t1 p0 p1 hBL hOL s08
    refine ⟨_, rfl, 2, rfl, a, _, rfl, s08.seq hS, fun SL nSL => ⟨SL, rfl, ⟨_, SqL.of upd_same⟩, ?_⟩⟩
    have s9 := same_upd (o := .lst (cutV (ns.map V.int) (some 2) none)) nSL
    have hcut : ∀ i x, (cutV (ns.map V.int) (some 2) none)[i]? = some x → ∃ z : Int, x = V.int z := fun i x e => by
      obtain ⟨u, hu1, hu2⟩ : ∃ u, u ∈ ns.map V.int ∧ u = x := ⟨x, by (have m := List.mem_of_getElem? e; unfold cutV at m; exact List.mem_of_mem_drop (List.mem_of_mem_take m)), rfl⟩
      obtain ⟨z, _, rfl⟩ := List.mem_map.mp hu1
      exact ⟨z, hu2.symm⟩
    refine for_list (K := K) (a := SL) (xs := cutV (ns.map V.int) (some 2) none) (fun i σ H5 => ∃ v7 v8 v9 v10 v11 v12 v13 v14 kv0 kv1, σ = [some (.ref a), some (.int g), some (.int R), some (.int C), some (.int x), some (.ref BL), some (.ref OL), v7, v8, v9, v10, v11, v12, v13, v14, none] ∧ Two D H5 R C b0 d0 o0 b1 d1 o1 kv0 kv1 ∧ H5 BL = some (.lst [.ref b0, .ref b1]) ∧ H5 OL = some (.lst [.ref o0, .ref o1]) ∧ H5 SL = some (.lst (cutV (ns.map V.int) (some 2) none)))
      ⟨none, none, none, none, none, none, none, none, [], [], rfl, ⟨t0.same s9, p0.same s9, t1.same s9, p1.same s9⟩, s9 _ _ hBL, s9 _ _ hOL, upd_same⟩ (fun _ _ H5 _ ⟨_, _, _, _, _, _, _, _, _, _, _, _, _, _, q⟩ => SqL.of q) ?_ ?_
    · clear t0 t1 p0 p1 hBL hOL s08 s9
      rintro i y σ H5 hy ⟨v7, v8, v9, v10, v11, v12, v13, v14, kv0, kv1, rfl, tw, hBL, hOL, hSL⟩
      obtain ⟨m, rfl⟩ := hcut i y hy
      refine ⟨_, rfl, _, _, rfl, rfl, ⟨by decide, by decide⟩, _, _, rfl, rfl, (by show (0 : Int) < 2; decide), ?_⟩
      refine ⟨_, rfl, _, _, rfl, rfl, ⟨by decide, by decide⟩, _, rfl, _, _, rfl, rfl, _, _, rfl, rfl, (by show (0 : Int) < R + 2; omega), _, _, rfl, rfl, _, rfl, _, _, rfl, rfl, ⟨by decide, by decide⟩, _, rfl, _, _, rfl, rfl, _, _, rfl, rfl, (by show (0 : Int) < C + 2; omega), _, _, rfl, rfl, szl, fun sp nsp => ?_⟩
      refine ⟨_, rfl, _, _, rfl, rfl, ⟨by decide, by decide⟩, _, _, rfl, rfl, (by show (0 : Int) < 4; decide), ?_⟩
      dsimp only
      have ssp := same_upd (o := .tup [V.int (m / 64 % (R + 2) - 1), V.int (m / 1024 % (C + 2) - 1)]) nsp
      have hsp : upd H5 sp (.tup [V.int (m / 64 % (R + 2) - 1), V.int (m / 1024 % (C + 2) - 1)]) sp = some (.tup [V.int (m / 64 % (R + 2) - 1), V.int (m / 1024 % (C + 2) - 1)]) := upd_same
      generalize m / 64 % (R + 2) - 1 = sr at ssp hsp
      generalize m / 1024 % (C + 2) - 1 = sc at ssp hsp
      have tw6 := tw.same ssp
      have hBL6 := ssp _ _ hBL
      have hOL6 := ssp _ _ hOL
      have hSL6 := ssp _ _ hSL
      generalize upd H5 sp (.tup [V.int sr, V.int sc]) = H6 at ssp hsp tw6 hBL6 hOL6 hSL6
      clear tw hBL hOL hSL ssp
      refine ⟨_, rfl, _, _, rfl, rfl, ⟨by decide, by decide⟩, _, _, rfl, rfl, (by show (0 : Int) < 9; decide), rfl, _, rfl, ifI (fun _ => ?_) (fun _ => ?_)⟩
      · refine ⟨_, rfl, sp, _, _, _, rfl, rfl, SqT.of hsp, at0, _, rfl, _, rfl, _, _, rfl, rfl, ⟨by decide, by decide⟩, _, _, rfl, rfl, (by show (0 : Int) < 90; decide), _, _, rfl, rfl, _, rfl, _, rfl, _, _, rfl, rfl, ⟨by decide, by decide⟩, _, _, rfl, rfl, (by show (0 : Int) < 90; decide), _, _, rfl, rfl, szl, fun L1 nL1 => ?_⟩
        obtain ⟨y2, hy2, _⟩ := pick2v (V.int (C + m / 200000 % 90)) (V.int (-1 - m / 200000 % 90)) (m / 99)
        obtain ⟨sc2, rfl⟩ : ∃ z : Int, y2 = V.int z := by
          rename_i h
          rcases h with h | h
          · exact ⟨_, h⟩
          · exact ⟨_, h⟩
        refine ⟨_, rfl, _, _, rfl, rfl, ⟨by decide, by decide⟩, _, _, rfl, rfl, (by show (0 : Int) < 2; decide), L1, _, _, _, rfl, rfl, SqL.of upd_same, hy2, szl, fun sp2 nsp2 => ?_⟩
        have sL1 := same_upd (o := .lst [V.int (C + m / 200000 % 90), V.int (-1 - m / 200000 % 90)]) nL1
        have ssp2 := same_upd (o := .tup [V.int sr, V.int sc2]) nsp2
        have tw7 := tw6.same (sL1.trans ssp2)
        have hBL7 := (sL1.trans ssp2) _ _ hBL6
        have hOL7 := (sL1.trans ssp2) _ _ hOL6
        have hSL7 := (sL1.trans ssp2) _ _ hSL6
        have hpc : PairAt (upd (upd H6 L1 (.lst [V.int (C + m / 200000 % 90), V.int (-1 - m / 200000 % 90)])) sp2 (.tup [V.int sr, V.int sc2])) (.ref sp2) (sr, sc2) := ⟨sp2, rfl, upd_same⟩
        dsimp only
        generalize upd (upd H6 L1 (.lst [V.int (C + m / 200000 % 90), V.int (-1 - m / 200000 % 90)])) sp2 (.tup [V.int sr, V.int sc2]) = H7 at tw7 hBL7 hOL7 hSL7 hpc
        generalize hspv : V.ref sp2 = spv at hpc
        generalize (sr, sc2) = spc at hpc
        refine ⟨_, rfl, _, _, rfl, rfl, ⟨by decide, by decide⟩, _, _, rfl, rfl, (by show (0 : Int) < 9; decide), rfl, _, rfl, ifI (fun _ => ?_) (fun _ => ?_)⟩
        · obtain ⟨y3, hy3, hor3⟩ := pick2v (V.int (3 + m / 200000 % 90)) (V.int (-1 - m / 200000 % 90)) (m / 99)
          obtain ⟨hd, rfl⟩ : ∃ z : Int, y3 = V.int z := by
            rcases hor3 with h | h
            · exact ⟨_, h⟩
            · exact ⟨_, h⟩
          refine ⟨_, rfl, _, _, rfl, rfl, ⟨by decide, by decide⟩, _, _, rfl, rfl, (by show (0 : Int) < 90; decide), _, _, rfl, rfl, _, rfl, _, rfl, _, _, rfl, rfl, ⟨by decide, by decide⟩, _, _, rfl, rfl, (by show (0 : Int) < 90; decide), _, _, rfl, rfl, szl, fun L2 nL2 => ?_⟩
          refine ⟨_, rfl, _, _, rfl, rfl, ⟨by decide, by decide⟩, _, _, rfl, rfl, (by show (0 : Int) < 2; decide), L2, _, _, _, rfl, rfl, SqL.of upd_same, hy3, ?_⟩
          have sL2 := same_upd (o := .lst [V.int (3 + m / 200000 % 90), V.int (-1 - m / 200000 % 90)]) nL2
          have tw8 := tw7.same sL2
          have hBL8 := sL2 _ _ hBL7
          have hOL8 := sL2 _ _ hOL7
          have hSL8 := sL2 _ _ hSL7
          have hpc8 := hpc.same sL2
          dsimp only
          generalize upd H7 L2 (.lst [V.int (3 + m / 200000 % 90), V.int (-1 - m / 200000 % 90)]) = H8 at tw8 hBL8 hOL8 hSL8 hpc8
          refine ⟨_, rfl, _, _, rfl, rfl, ⟨by decide, by decide⟩, _, _, rfl, rfl, (by show (0 : Int) < 4; decide), ?_⟩
          dsimp only
          generalize m / 16 % 4 = kd
          have hat : m / 2 % 2 = 0 ∨ m / 2 % 2 = 1 := by omega
          rcases hat with hat | hat
          · rw [hat]
            have SA := tw8.s0
            have PA := tw8.p0
            have SB := tw8.s1
            have PB := tw8.p1
            refine ⟨_, rfl, _, rfl, _, rfl, _, rfl, OL, _, _, _, rfl, rfl, SqL.of hOL8, at_of (j := 0) rfl rfl, _, rfl, _, rfl, _, rfl, R, C, o0, kv0, kd, spv, spc, hd, by rw [← hspv]; rfl, hpc8, PA, SA.ok, fun q H9 u9 P9 r9 => ?_⟩
            have SA9 := SA.but u9 PA hd0o0
            have SB9 := SB.but u9 PA hd1o0
            have PB9 : OvAt H9 o1 kv1 := u9 _ _ (Ne.symm ho01) PB
            have hBL9 := u9 _ _ (ne_of hBL8 PA fun z => nomatch z) hBL8
            have hOL9 := u9 _ _ (ne_of hOL8 PA fun z => nomatch z) hOL8
            have hSL9 := u9 _ _ (ne_of hSL8 PA fun z => nomatch z) hSL8
            have hpc9 := hpc8.but u9 PA
            refine ⟨_, rfl, _, rfl, BL, _, _, _, rfl, rfl, SqL.of hBL9, at_of (j := 0) rfl rfl, _, rfl, _, rfl, _, rfl, b0, d0, R, C, kv0, kd, spv, spc, hd, by rw [← hspv]; rfl, hpc9, SA9, fun w Ha ua SAa ra => ?_⟩
            have hda := SA9.dc
            have SBa := SB9.but ua hda (Ne.symm hd01)
            have PBa : OvAt Ha o1 kv1 := ua _ _ (Ne.symm hd0o1) PB9
            have PAa : OvAt Ha o0 (deed R C kv0 kd spc hd).2.2 := ua _ _ (Ne.symm hd0o0) P9
            have hBLa := ua _ _ (ne_of hBL9 hda fun z => nomatch z) hBL9
            have hOLa := ua _ _ (ne_of hOL9 hda fun z => nomatch z) hOL9
            have hSLa := ua _ _ (ne_of hSL9 hda fun z => nomatch z) hSL9
            have r9a := r9.but ua hda
            have twa : Two D Ha R C b0 d0 o0 b1 d1 o1 (deed R C kv0 kd spc hd).2.2 kv1 := ⟨SAa, PAa, SBa, PBa⟩
            clear SA PA SB PB SA9 SB9 PB9 hBL9 hOL9 hSL9 hpc9 SBa PBa PAa tw8 hBL8 hOL8 hSL8 hpc8 tw7 hBL7 hOL7 hSL7 hpc tw6 hBL6 hOL6 hSL6 hda SAa P9
            generalize (deed R C kv0 kd spc hd).2.2 = kvn at twa
            generalize (deed R C kv0 kd spc hd).1 = dv at ra r9a
            generalize (deed R C kv0 kd spc hd).2.1 = dm at ra r9a
            obtain ⟨m1, w1, w2⟩ := ra
            obtain ⟨m2, w3, w4⟩ := r9a
            refine ⟨_, rfl, w, _, _, _, rfl, rfl, SqT.of w1, at1, _, rfl, q, _, _, _, rfl, rfl, SqT.of w3, at1, blist dm, blist dm, dp_bools (SqL.of w2), dp_bools (SqL.of w4), sh_bl _, sh_bl _, _, rfl, ?_⟩
            rw [eqv_bl, decide_eq_true rfl]
            refine if_f rfl ?_
            cases dv with
            | none =>
              refine ⟨_, rfl, q, _, _, _, rfl, rfl, SqT.of w3, at0, _, rfl, if_t rfl ?_⟩
              refine ⟨_, rfl, w, _, _, _, rfl, rfl, SqT.of w1, at0, _, rfl, if_f rfl ?_⟩
              refine ⟨_, rfl, q, _, _, _, rfl, rfl, SqT.of w3, at0, _, rfl, if_f rfl ?_⟩
              refine ⟨2, rfl, by decide, by decide, for_range (lo := 0) (n := 2) (fun j σ Hb => ∃ v14, σ = [some (.ref a), some (.int g), some (.int R), some (.int C), some (.int x), some (.ref BL), some (.ref OL), _, _, _, _, _, _, _, v14, none] ∧ Same Ha Hb) ⟨_, rfl, .refl _⟩ ?_ ?_⟩
              · rintro j σ Hb hj ⟨v14, rfl, sb⟩
                have twb := twa.same sb
                have hBLb := sb _ _ hBLa
                have hOLb := sb _ _ hOLa
                match j, hj with
                | 0, _ => exact ⟨_, rfl, _, rfl, BL, _, _, _, rfl, rfl, SqL.of hBLb, at_of (j := 0) rfl rfl, _, rfl, _, rfl, _, rfl, _, rfl, OL, _, _, _, rfl, rfl, SqL.of hOLb, at_of (j := 0) rfl rfl, b0, d0, R, C, _, o0, rfl, twb.s0, twb.p0, fun Hc sc => ⟨true, rfl, _, rfl, sb.trans sc⟩⟩
                | 1, _ => exact ⟨_, rfl, _, rfl, BL, _, _, _, rfl, rfl, SqL.of hBLb, at_of (j := 1) rfl rfl, _, rfl, _, rfl, _, rfl, _, rfl, OL, _, _, _, rfl, rfl, SqL.of hOLb, at_of (j := 1) rfl rfl, b1, d1, R, C, _, o1, rfl, twb.s1, twb.p1, fun Hc sc => ⟨true, rfl, _, rfl, sb.trans sc⟩⟩
                | z + 2, h => exact absurd h (by omega)
              · rintro σ Hb ⟨v14, rfl, sb⟩
                exact ⟨_, _, _, _, _, _, _, _, _, _, rfl, twa.same sb, sb _ _ hBLa, sb _ _ hOLa, sb _ _ hSLa⟩
            | some dz =>
              refine ⟨_, rfl, q, _, _, _, rfl, rfl, SqT.of w3, at0, _, rfl, if_f rfl ?_⟩
              refine ⟨_, rfl, q, _, _, _, rfl, rfl, SqT.of w3, at0, _, rfl, if_t rfl ?_⟩
              refine ⟨_, rfl, w, _, _, _, rfl, rfl, SqT.of w1, at0, _, rfl, true, rfl, ?_⟩
              refine ⟨_, rfl, w, _, _, _, rfl, rfl, SqT.of w1, at0, _, rfl, q, _, _, _, rfl, rfl, SqT.of w3, at0, rfl, _, rfl, ifIN (fun e => absurd rfl e) (fun _ => ?_)⟩
              refine ⟨2, rfl, by decide, by decide, for_range (lo := 0) (n := 2) (fun j σ Hb => ∃ v14, σ = [some (.ref a), some (.int g), some (.int R), some (.int C), some (.int x), some (.ref BL), some (.ref OL), _, _, _, _, _, _, _, v14, none] ∧ Same Ha Hb) ⟨_, rfl, .refl _⟩ ?_ ?_⟩
              · rintro j σ Hb hj ⟨v14, rfl, sb⟩
                have twb := twa.same sb
                have hBLb := sb _ _ hBLa
                have hOLb := sb _ _ hOLa
                match j, hj with
                | 0, _ => exact ⟨_, rfl, _, rfl, BL, _, _, _, rfl, rfl, SqL.of hBLb, at_of (j := 0) rfl rfl, _, rfl, _, rfl, _, rfl, _, rfl, OL, _, _, _, rfl, rfl, SqL.of hOLb, at_of (j := 0) rfl rfl, b0, d0, R, C, _, o0, rfl, twb.s0, twb.p0, fun Hc sc => ⟨true, rfl, _, rfl, sb.trans sc⟩⟩
                | 1, _ => exact ⟨_, rfl, _, rfl, BL, _, _, _, rfl, rfl, SqL.of hBLb, at_of (j := 1) rfl rfl, _, rfl, _, rfl, _, rfl, _, rfl, OL, _, _, _, rfl, rfl, SqL.of hOLb, at_of (j := 1) rfl rfl, b1, d1, R, C, _, o1, rfl, twb.s1, twb.p1, fun Hc sc => ⟨true, rfl, _, rfl, sb.trans sc⟩⟩
                | z + 2, h => exact absurd h (by omega)
              · rintro σ Hb ⟨v14, rfl, sb⟩
                exact ⟨_, _, _, _, _, _, _, _, _, _, rfl, twa.same sb, sb _ _ hBLa, sb _ _ hOLa, sb _ _ hSLa⟩
          · rw [hat]
            have SA := tw8.s1
            have PA := tw8.p1
            have SB := tw8.s0
            have PB := tw8.p0
            refine ⟨_, rfl, _, rfl, _, rfl, _, rfl, OL, _, _, _, rfl, rfl, SqL.of hOL8, at_of (j := 1) rfl rfl, _, rfl, _, rfl, _, rfl, R, C, o1, kv1, kd, spv, spc, hd, by rw [← hspv]; rfl, hpc8, PA, SA.ok, fun q H9 u9 P9 r9 => ?_⟩
            have SA9 := SA.but u9 PA hd1o1
            have SB9 := SB.but u9 PA hd0o1
            have PB9 : OvAt H9 o0 kv0 := u9 _ _ ho01 PB
            have hBL9 := u9 _ _ (ne_of hBL8 PA fun z => nomatch z) hBL8
            have hOL9 := u9 _ _ (ne_of hOL8 PA fun z => nomatch z) hOL8
            have hSL9 := u9 _ _ (ne_of hSL8 PA fun z => nomatch z) hSL8
            have hpc9 := hpc8.but u9 PA
            refine ⟨_, rfl, _, rfl, BL, _, _, _, rfl, rfl, SqL.of hBL9, at_of (j := 1) rfl rfl, _, rfl, _, rfl, _, rfl, b1, d1, R, C, kv1, kd, spv, spc, hd, by rw [← hspv]; rfl, hpc9, SA9, fun w Ha ua SAa ra => ?_⟩
            have hda := SA9.dc
            have SBa := SB9.but ua hda hd01
            have PBa : OvAt Ha o0 kv0 := ua _ _ (Ne.symm hd1o0) PB9
            have PAa : OvAt Ha o1 (deed R C kv1 kd spc hd).2.2 := ua _ _ (Ne.symm hd1o1) P9
            have hBLa := ua _ _ (ne_of hBL9 hda fun z => nomatch z) hBL9
            have hOLa := ua _ _ (ne_of hOL9 hda fun z => nomatch z) hOL9
            have hSLa := ua _ _ (ne_of hSL9 hda fun z => nomatch z) hSL9
            have r9a := r9.but ua hda
            have twa : Two D Ha R C b0 d0 o0 b1 d1 o1 kv0 (deed R C kv1 kd spc hd).2.2 := ⟨SBa, PBa, SAa, PAa⟩
            clear SA PA SB PB SA9 SB9 PB9 hBL9 hOL9 hSL9 hpc9 SBa PBa PAa tw8 hBL8 hOL8 hSL8 hpc8 tw7 hBL7 hOL7 hSL7 hpc tw6 hBL6 hOL6 hSL6 hda SAa P9
            generalize (deed R C kv1 kd spc hd).2.2 = kvn at twa
            generalize (deed R C kv1 kd spc hd).1 = dv at ra r9a
            generalize (deed R C kv1 kd spc hd).2.1 = dm at ra r9a
            obtain ⟨m1, w1, w2⟩ := ra
            obtain ⟨m2, w3, w4⟩ := r9a
            refine ⟨_, rfl, w, _, _, _, rfl, rfl, SqT.of w1, at1, _, rfl, q, _, _, _, rfl, rfl, SqT.of w3, at1, blist dm, blist dm, dp_bools (SqL.of w2), dp_bools (SqL.of w4), sh_bl _, sh_bl _, _, rfl, ?_⟩
            rw [eqv_bl, decide_eq_true rfl]
            refine if_f rfl ?_
            cases dv with
            | none =>
              refine ⟨_, rfl, q, _, _, _, rfl, rfl, SqT.of w3, at0, _, rfl, if_t rfl ?_⟩
              refine ⟨_, rfl, w, _, _, _, rfl, rfl, SqT.of w1, at0, _, rfl, if_f rfl ?_⟩
              refine ⟨_, rfl, q, _, _, _, rfl, rfl, SqT.of w3, at0, _, rfl, if_f rfl ?_⟩
              refine ⟨2, rfl, by decide, by decide, for_range (lo := 0) (n := 2) (fun j σ Hb => ∃ v14, σ = [some (.ref a), some (.int g), some (.int R), some (.int C), some (.int x), some (.ref BL), some (.ref OL), _, _, _, _, _, _, _, v14, none] ∧ Same Ha Hb) ⟨_, rfl, .refl _⟩ ?_ ?_⟩
              · rintro j σ Hb hj ⟨v14, rfl, sb⟩
                have twb := twa.same sb
                have hBLb := sb _ _ hBLa
                have hOLb := sb _ _ hOLa
                match j, hj with
                | 0, _ => exact ⟨_, rfl, _, rfl, BL, _, _, _, rfl, rfl, SqL.of hBLb, at_of (j := 0) rfl rfl, _, rfl, _, rfl, _, rfl, _, rfl, OL, _, _, _, rfl, rfl, SqL.of hOLb, at_of (j := 0) rfl rfl, b0, d0, R, C, _, o0, rfl, twb.s0, twb.p0, fun Hc sc => ⟨true, rfl, _, rfl, sb.trans sc⟩⟩
                | 1, _ => exact ⟨_, rfl, _, rfl, BL, _, _, _, rfl, rfl, SqL.of hBLb, at_of (j := 1) rfl rfl, _, rfl, _, rfl, _, rfl, _, rfl, OL, _, _, _, rfl, rfl, SqL.of hOLb, at_of (j := 1) rfl rfl, b1, d1, R, C, _, o1, rfl, twb.s1, twb.p1, fun Hc sc => ⟨true, rfl, _, rfl, sb.trans sc⟩⟩
                | z + 2, h => exact absurd h (by omega)
              · rintro σ Hb ⟨v14, rfl, sb⟩
                exact ⟨_, _, _, _, _, _, _, _, _, _, rfl, twa.same sb, sb _ _ hBLa, sb _ _ hOLa, sb _ _ hSLa⟩
            | some dz =>
              refine ⟨_, rfl, q, _, _, _, rfl, rfl, SqT.of w3, at0, _, rfl, if_f rfl ?_⟩
              refine ⟨_, rfl, q, _, _, _, rfl, rfl, SqT.of w3, at0, _, rfl, if_t rfl ?_⟩
              refine ⟨_, rfl, w, _, _, _, rfl, rfl, SqT.of w1, at0, _, rfl, true, rfl, ?_⟩
              refine ⟨_, rfl, w, _, _, _, rfl, rfl, SqT.of w1, at0, _, rfl, q, _, _, _, rfl, rfl, SqT.of w3, at0, rfl, _, rfl, ifIN (fun e => absurd rfl e) (fun _ => ?_)⟩
              refine ⟨2, rfl, by decide, by decide, for_range (lo := 0) (n := 2) (fun j σ Hb => ∃ v14, σ = [some (.ref a), some (.int g), some (.int R), some (.int C), some (.int x), some (.ref BL), some (.ref OL), _, _, _, _, _, _, _, v14, none] ∧ Same Ha Hb) ⟨_, rfl, .refl _⟩ ?_ ?_⟩
              · rintro j σ Hb hj ⟨v14, rfl, sb⟩
                have twb := twa.same sb
                have hBLb := sb _ _ hBLa
                have hOLb := sb _ _ hOLa
                match j, hj with
                | 0, _ => exact ⟨_, rfl, _, rfl, BL, _, _, _, rfl, rfl, SqL.of hBLb, at_of (j := 0) rfl rfl, _, rfl, _, rfl, _, rfl, _, rfl, OL, _, _, _, rfl, rfl, SqL.of hOLb, at_of (j := 0) rfl rfl, b0, d0, R, C, _, o0, rfl, twb.s0, twb.p0, fun Hc sc => ⟨true, rfl, _, rfl, sb.trans sc⟩⟩
                | 1, _ => exact ⟨_, rfl, _, rfl, BL, _, _, _, rfl, rfl, SqL.of hBLb, at_of (j := 1) rfl rfl, _, rfl, _, rfl, _, rfl, _, rfl, OL, _, _, _, rfl, rfl, SqL.of hOLb, at_of (j := 1) rfl rfl, b1, d1, R, C, _, o1, rfl, twb.s1, twb.p1, fun Hc sc => ⟨true, rfl, _, rfl, sb.trans sc⟩⟩
                | z + 2, h => exact absurd h (by omega)
              · rintro σ Hb ⟨v14, rfl, sb⟩
                exact ⟨_, _, _, _, _, _, _, _, _, _, rfl, twa.same sb, sb _ _ hBLa, sb _ _ hOLa, sb _ _ hSLa⟩
        · dsimp only
          have tw8 := tw7
          have hBL8 := hBL7
          have hOL8 := hOL7
          have hSL8 := hSL7
          have hpc8 := hpc
          generalize m / 4 % 4 = hd
          refine ⟨_, rfl, _, _, rfl, rfl, ⟨by decide, by decide⟩, _, _, rfl, rfl, (by show (0 : Int) < 4; decide), ?_⟩
          dsimp only
          generalize m / 16 % 4 = kd
          have hat : m / 2 % 2 = 0 ∨ m / 2 % 2 = 1 := by omega
          rcases hat with hat | hat
          · rw [hat]
            have SA := tw8.s0
            have PA := tw8.p0
            have SB := tw8.s1
            have PB := tw8.p1
            refine ⟨_, rfl, _, rfl, _, rfl, _, rfl, OL, _, _, _, rfl, rfl, SqL.of hOL8, at_of (j := 0) rfl rfl, _, rfl, _, rfl, _, rfl, R, C, o0, kv0, kd, spv, spc, hd, by rw [← hspv]; rfl, hpc8, PA, SA.ok, fun q H9 u9 P9 r9 => ?_⟩
            have SA9 := SA.but u9 PA hd0o0
            have SB9 := SB.but u9 PA hd1o0
            have PB9 : OvAt H9 o1 kv1 := u9 _ _ (Ne.symm ho01) PB
            have hBL9 := u9 _ _ (ne_of hBL8 PA fun z => nomatch z) hBL8
            have hOL9 := u9 _ _ (ne_of hOL8 PA fun z => nomatch z) hOL8
            have hSL9 := u9 _ _ (ne_of hSL8 PA fun z => nomatch z) hSL8
            have hpc9 := hpc8.but u9 PA
            refine ⟨_, rfl, _, rfl, BL, _, _, _, rfl, rfl, SqL.of hBL9, at_of (j := 0) rfl rfl, _, rfl, _, rfl, _, rfl, b0, d0, R, C, kv0, kd, spv, spc, hd, by rw [← hspv]; rfl, hpc9, SA9, fun w Ha ua SAa ra => ?_⟩
            have hda := SA9.dc
            have SBa := SB9.but ua hda (Ne.symm hd01)
            have PBa : OvAt Ha o1 kv1 := ua _ _ (Ne.symm hd0o1) PB9
            have PAa : OvAt Ha o0 (deed R C kv0 kd spc hd).2.2 := ua _ _ (Ne.symm hd0o0) P9
            have hBLa := ua _ _ (ne_of hBL9 hda fun z => nomatch z) hBL9
            have hOLa := ua _ _ (ne_of hOL9 hda fun z => nomatch z) hOL9
            have hSLa := ua _ _ (ne_of hSL9 hda fun z => nomatch z) hSL9
            have r9a := r9.but ua hda
            have twa : Two D Ha R C b0 d0 o0 b1 d1 o1 (deed R C kv0 kd spc hd).2.2 kv1 := ⟨SAa, PAa, SBa, PBa⟩
            clear SA PA SB PB SA9 SB9 PB9 hBL9 hOL9 hSL9 hpc9 SBa PBa PAa tw8 hBL8 hOL8 hSL8 hpc8 tw7 hBL7 hOL7 hSL7 hpc tw6 hBL6 hOL6 hSL6 hda SAa P9
            generalize (deed R C kv0 kd spc hd).2.2 = kvn at twa
            generalize (deed R C kv0 kd spc hd).1 = dv at ra r9a
            generalize (deed R C kv0 kd spc hd).2.1 = dm at ra r9a
            obtain ⟨m1, w1, w2⟩ := ra
            obtain ⟨m2, w3, w4⟩ := r9a
            refine ⟨_, rfl, w, _, _, _, rfl, rfl, SqT.of w1, at1, _, rfl, q, _, _, _, rfl, rfl, SqT.of w3, at1, blist dm, blist dm, dp_bools (SqL.of w2), dp_bools (SqL.of w4), sh_bl _, sh_bl _, _, rfl, ?_⟩
            rw [eqv_bl, decide_eq_true rfl]
            refine if_f rfl ?_
            cases dv with
            | none =>
              refine ⟨_, rfl, q, _, _, _, rfl, rfl, SqT.of w3, at0, _, rfl, if_t rfl ?_⟩
              refine ⟨_, rfl, w, _, _, _, rfl, rfl, SqT.of w1, at0, _, rfl, if_f rfl ?_⟩
              refine ⟨_, rfl, q, _, _, _, rfl, rfl, SqT.of w3, at0, _, rfl, if_f rfl ?_⟩
              refine ⟨2, rfl, by decide, by decide, for_range (lo := 0) (n := 2) (fun j σ Hb => ∃ v14, σ = [some (.ref a), some (.int g), some (.int R), some (.int C), some (.int x), some (.ref BL), some (.ref OL), _, _, _, _, _, _, _, v14, none] ∧ Same Ha Hb) ⟨_, rfl, .refl _⟩ ?_ ?_⟩
              · rintro j σ Hb hj ⟨v14, rfl, sb⟩
                have twb := twa.same sb
                have hBLb := sb _ _ hBLa
                have hOLb := sb _ _ hOLa
                match j, hj with
                | 0, _ => exact ⟨_, rfl, _, rfl, BL, _, _, _, rfl, rfl, SqL.of hBLb, at_of (j := 0) rfl rfl, _, rfl, _, rfl, _, rfl, _, rfl, OL, _, _, _, rfl, rfl, SqL.of hOLb, at_of (j := 0) rfl rfl, b0, d0, R, C, _, o0, rfl, twb.s0, twb.p0, fun Hc sc => ⟨true, rfl, _, rfl, sb.trans sc⟩⟩
                | 1, _ => exact ⟨_, rfl, _, rfl, BL, _, _, _, rfl, rfl, SqL.of hBLb, at_of (j := 1) rfl rfl, _, rfl, _, rfl, _, rfl, _, rfl, OL, _, _, _, rfl, rfl, SqL.of hOLb, at_of (j := 1) rfl rfl, b1, d1, R, C, _, o1, rfl, twb.s1, twb.p1, fun Hc sc => ⟨true, rfl, _, rfl, sb.trans sc⟩⟩
                | z + 2, h => exact absurd h (by omega)
              · rintro σ Hb ⟨v14, rfl, sb⟩
                exact ⟨_, _, _, _, _, _, _, _, _, _, rfl, twa.same sb, sb _ _ hBLa, sb _ _ hOLa, sb _ _ hSLa⟩
            | some dz =>
              refine ⟨_, rfl, q, _, _, _, rfl, rfl, SqT.of w3, at0, _, rfl, if_f rfl ?_⟩
              refine ⟨_, rfl, q, _, _, _, rfl, rfl, SqT.of w3, at0, _, rfl, if_t rfl ?_⟩
              refine ⟨_, rfl, w, _, _, _, rfl, rfl, SqT.of w1, at0, _, rfl, true, rfl, ?_⟩
              refine ⟨_, rfl, w, _, _, _, rfl, rfl, SqT.of w1, at0, _, rfl, q, _, _, _, rfl, rfl, SqT.of w3, at0, rfl, _, rfl, ifIN (fun e => absurd rfl e) (fun _ => ?_)⟩
              refine ⟨2, rfl, by decide, by decide, for_range (lo := 0) (n := 2) (fun j σ Hb => ∃ v14, σ = [some (.ref a), some (.int g), some (.int R), some (.int C), some (.int x), some (.ref BL), some (.ref OL), _, _, _, _, _, _, _, v14, none] ∧ Same Ha Hb) ⟨_, rfl, .refl _⟩ ?_ ?_⟩
              · rintro j σ Hb hj ⟨v14, rfl, sb⟩
                have twb := twa.same sb
                have hBLb := sb _ _ hBLa
                have hOLb := sb _ _ hOLa
                match j, hj with
                | 0, _ => exact ⟨_, rfl, _, rfl, BL, _, _, _, rfl, rfl, SqL.of hBLb, at_of (j := 0) rfl rfl, _, rfl, _, rfl, _, rfl, _, rfl, OL, _, _, _, rfl, rfl, SqL.of hOLb, at_of (j := 0) rfl rfl, b0, d0, R, C, _, o0, rfl, twb.s0, twb.p0, fun Hc sc => ⟨true, rfl, _, rfl, sb.trans sc⟩⟩
                | 1, _ => exact ⟨_, rfl, _, rfl, BL, _, _, _, rfl, rfl, SqL.of hBLb, at_of (j := 1) rfl rfl, _, rfl, _, rfl, _, rfl, _, rfl, OL, _, _, _, rfl, rfl, SqL.of hOLb, at_of (j := 1) rfl rfl, b1, d1, R, C, _, o1, rfl, twb.s1, twb.p1, fun Hc sc => ⟨true, rfl, _, rfl, sb.trans sc⟩⟩
                | z + 2, h => exact absurd h (by omega)
              · rintro σ Hb ⟨v14, rfl, sb⟩
                exact ⟨_, _, _, _, _, _, _, _, _, _, rfl, twa.same sb, sb _ _ hBLa, sb _ _ hOLa, sb _ _ hSLa⟩
          · rw [hat]
            have SA := tw8.s1
            have PA := tw8.p1
            have SB := tw8.s0
            have PB := tw8.p0
            refine ⟨_, rfl, _, rfl, _, rfl, _, rfl, OL, _, _, _, rfl, rfl, SqL.of hOL8, at_of (j := 1) rfl rfl, _, rfl, _, rfl, _, rfl, R, C, o1, kv1, kd, spv, spc, hd, by rw [← hspv]; rfl, hpc8, PA, SA.ok, fun q H9 u9 P9 r9 => ?_⟩
            have SA9 := SA.but u9 PA hd1o1
            have SB9 := SB.but u9 PA hd0o1
            have PB9 : OvAt H9 o0 kv0 := u9 _ _ ho01 PB
            have hBL9 := u9 _ _ (ne_of hBL8 PA fun z => nomatch z) hBL8
            have hOL9 := u9 _ _ (ne_of hOL8 PA fun z => nomatch z) hOL8
            have hSL9 := u9 _ _ (ne_of hSL8 PA fun z => nomatch z) hSL8
            have hpc9 := hpc8.but u9 PA
            refine ⟨_, rfl, _, rfl, BL, _, _, _, rfl, rfl, SqL.of hBL9, at_of (j := 1) rfl rfl, _, rfl, _, rfl, _, rfl, b1, d1, R, C, kv1, kd, spv, spc, hd, by rw [← hspv]; rfl, hpc9, SA9, fun w Ha ua SAa ra => ?_⟩
            have hda := SA9.dc
            have SBa := SB9.but ua hda hd01
            have PBa : OvAt Ha o0 kv0 := ua _ _ (Ne.symm hd1o0) PB9
            have PAa : OvAt Ha o1 (deed R C kv1 kd spc hd).2.2 := ua _ _ (Ne.symm hd1o1) P9
            have hBLa := ua _ _ (ne_of hBL9 hda fun z => nomatch z) hBL9
            have hOLa := ua _ _ (ne_of hOL9 hda fun z => nomatch z) hOL9
            have hSLa := ua _ _ (ne_of hSL9 hda fun z => nomatch z) hSL9
            have r9a := r9.but ua hda
            have twa : Two D Ha R C b0 d0 o0 b1 d1 o1 kv0 (deed R C kv1 kd spc hd).2.2 := ⟨SBa, PBa, SAa, PAa⟩
            clear SA PA SB PB SA9 SB9 PB9 hBL9 hOL9 hSL9 hpc9 SBa PBa PAa tw8 hBL8 hOL8 hSL8 hpc8 tw7 hBL7 hOL7 hSL7 hpc tw6 hBL6 hOL6 hSL6 hda SAa P9
            generalize (deed R C kv1 kd spc hd).2.2 = kvn at twa
            generalize (deed R C kv1 kd spc hd).1 = dv at ra r9a
            generalize (deed R C kv1 kd spc hd).2.1 = dm at ra r9a
            obtain ⟨m1, w1, w2⟩ := ra
            obtain ⟨m2, w3, w4⟩ := r9a
            refine ⟨_, rfl, w, _, _, _, rfl, rfl, SqT.of w1, at1, _, rfl, q, _, _, _, rfl, rfl, SqT.of w3, at1, blist dm, blist dm, dp_bools (SqL.of w2), dp_bools (SqL.of w4), sh_bl _, sh_bl _, _, rfl, ?_⟩
            rw [eqv_bl, decide_eq_true rfl]
            refine if_f rfl ?_
            cases dv with
            | none =>
              refine ⟨_, rfl, q, _, _, _, rfl, rfl, SqT.of w3, at0, _, rfl, if_t rfl ?_⟩
              refine ⟨_, rfl, w, _, _, _, rfl, rfl, SqT.of w1, at0, _, rfl, if_f rfl ?_⟩
              refine ⟨_, rfl, q, _, _, _, rfl, rfl, SqT.of w3, at0, _, rfl, if_f rfl ?_⟩
              refine ⟨2, rfl, by decide, by decide, for_range (lo := 0) (n := 2) (fun j σ Hb => ∃ v14, σ = [some (.ref a), some (.int g), some (.int R), some (.int C), some (.int x), some (.ref BL), some (.ref OL), _, _, _, _, _, _, _, v14, none] ∧ Same Ha Hb) ⟨_, rfl, .refl _⟩ ?_ ?_⟩
              · rintro j σ Hb hj ⟨v14, rfl, sb⟩
                have twb := twa.same sb
                have hBLb := sb _ _ hBLa
                have hOLb := sb _ _ hOLa
                match j, hj with
                | 0, _ => exact ⟨_, rfl, _, rfl, BL, _, _, _, rfl, rfl, SqL.of hBLb, at_of (j := 0) rfl rfl, _, rfl, _, rfl, _, rfl, _, rfl, OL, _, _, _, rfl, rfl, SqL.of hOLb, at_of (j := 0) rfl rfl, b0, d0, R, C, _, o0, rfl, twb.s0, twb.p0, fun Hc sc => ⟨true, rfl, _, rfl, sb.trans sc⟩⟩
                | 1, _ => exact ⟨_, rfl, _, rfl, BL, _, _, _, rfl, rfl, SqL.of hBLb, at_of (j := 1) rfl rfl, _, rfl, _, rfl, _, rfl, _, rfl, OL, _, _, _, rfl, rfl, SqL.of hOLb, at_of (j := 1) rfl rfl, b1, d1, R, C, _, o1, rfl, twb.s1, twb.p1, fun Hc sc => ⟨true, rfl, _, rfl, sb.trans sc⟩⟩
                | z + 2, h => exact absurd h (by omega)
              · rintro σ Hb ⟨v14, rfl, sb⟩
                exact ⟨_, _, _, _, _, _, _, _, _, _, rfl, twa.same sb, sb _ _ hBLa, sb _ _ hOLa, sb _ _ hSLa⟩
            | some dz =>
              refine ⟨_, rfl, q, _, _, _, rfl, rfl, SqT.of w3, at0, _, rfl, if_f rfl ?_⟩
              refine ⟨_, rfl, q, _, _, _, rfl, rfl, SqT.of w3, at0, _, rfl, if_t rfl ?_⟩
              refine ⟨_, rfl, w, _, _, _, rfl, rfl, SqT.of w1, at0, _, rfl, true, rfl, ?_⟩
              refine ⟨_, rfl, w, _, _, _, rfl, rfl, SqT.of w1, at0, _, rfl, q, _, _, _, rfl, rfl, SqT.of w3, at0, rfl, _, rfl, ifIN (fun e => absurd rfl e) (fun _ => ?_)⟩
              refine ⟨2, rfl, by decide, by decide, for_range (lo := 0) (n := 2) (fun j σ Hb => ∃ v14, σ = [some (.ref a), some (.int g), some (.int R), some (.int C), some (.int x), some (.ref BL), some (.ref OL), _, _, _, _, _, _, _, v14, none] ∧ Same Ha Hb) ⟨_, rfl, .refl _⟩ ?_ ?_⟩
              · rintro j σ Hb hj ⟨v14, rfl, sb⟩
                have twb := twa.same sb
                have hBLb := sb _ _ hBLa
                have hOLb := sb _ _ hOLa
                match j, hj with
                | 0, _ => exact ⟨_, rfl, _, rfl, BL, _, _, _, rfl, rfl, SqL.of hBLb, at_of (j := 0) rfl rfl, _, rfl, _, rfl, _, rfl, _, rfl, OL, _, _, _, rfl, rfl, SqL.of hOLb, at_of (j := 0) rfl rfl, b0, d0, R, C, _, o0, rfl, twb.s0, twb.p0, fun Hc sc => ⟨true, rfl, _, rfl, sb.trans sc⟩⟩
                | 1, _ => exact ⟨_, rfl, _, rfl, BL, _, _, _, rfl, rfl, SqL.of hBLb, at_of (j := 1) rfl rfl, _, rfl, _, rfl, _, rfl, _, rfl, OL, _, _, _, rfl, rfl, SqL.of hOLb, at_of (j := 1) rfl rfl, b1, d1, R, C, _, o1, rfl, twb.s1, twb.p1, fun Hc sc => ⟨true, rfl, _, rfl, sb.trans sc⟩⟩
                | z + 2, h => exact absurd h (by omega)
              · rintro σ Hb ⟨v14, rfl, sb⟩
                exact ⟨_, _, _, _, _, _, _, _, _, _, rfl, twa.same sb, sb _ _ hBLa, sb _ _ hOLa, sb _ _ hSLa⟩
      · have hpc : PairAt H6 (.ref sp) (sr, sc) := ⟨sp, rfl, hsp⟩
        have tw7 := tw6
        have hBL7 := hBL6
        have hOL7 := hOL6
        have hSL7 := hSL6
        generalize hspv : V.ref sp = spv at hpc
        generalize (sr, sc) = spc at hpc
        refine ⟨_, rfl, _, _, rfl, rfl, ⟨by decide, by decide⟩, _, _, rfl, rfl, (by show (0 : Int) < 9; decide), rfl, _, rfl, ifI (fun _ => ?_) (fun _ => ?_)⟩
        · obtain ⟨y3, hy3, hor3⟩ := pick2v (V.int (3 + m / 200000 % 90)) (V.int (-1 - m / 200000 % 90)) (m / 99)
          obtain ⟨hd, rfl⟩ : ∃ z : Int, y3 = V.int z := by
            rcases hor3 with h | h
            · exact ⟨_, h⟩
            · exact ⟨_, h⟩
          refine ⟨_, rfl, _, _, rfl, rfl, ⟨by decide, by decide⟩, _, _, rfl, rfl, (by show (0 : Int) < 90; decide), _, _, rfl, rfl, _, rfl, _, rfl, _, _, rfl, rfl, ⟨by decide, by decide⟩, _, _, rfl, rfl, (by show (0 : Int) < 90; decide), _, _, rfl, rfl, szl, fun L2 nL2 => ?_⟩
          refine ⟨_, rfl, _, _, rfl, rfl, ⟨by decide, by decide⟩, _, _, rfl, rfl, (by show (0 : Int) < 2; decide), L2, _, _, _, rfl, rfl, SqL.of upd_same, hy3, ?_⟩
          have sL2 := same_upd (o := .lst [V.int (3 + m / 200000 % 90), V.int (-1 - m / 200000 % 90)]) nL2
          have tw8 := tw7.same sL2
          have hBL8 := sL2 _ _ hBL7
          have hOL8 := sL2 _ _ hOL7
          have hSL8 := sL2 _ _ hSL7
          have hpc8 := hpc.same sL2
          dsimp only
          generalize upd H6 L2 (.lst [V.int (3 + m / 200000 % 90), V.int (-1 - m / 200000 % 90)]) = H8 at tw8 hBL8 hOL8 hSL8 hpc8
          refine ⟨_, rfl, _, _, rfl, rfl, ⟨by decide, by decide⟩, _, _, rfl, rfl, (by show (0 : Int) < 4; decide), ?_⟩
          dsimp only
          generalize m / 16 % 4 = kd
          have hat : m / 2 % 2 = 0 ∨ m / 2 % 2 = 1 := by omega
          rcases hat with hat | hat
          · rw [hat]
            have SA := tw8.s0
            have PA := tw8.p0
            have SB := tw8.s1
            have PB := tw8.p1
            refine ⟨_, rfl, _, rfl, _, rfl, _, rfl, OL, _, _, _, rfl, rfl, SqL.of hOL8, at_of (j := 0) rfl rfl, _, rfl, _, rfl, _, rfl, R, C, o0, kv0, kd, spv, spc, hd, by rw [← hspv]; rfl, hpc8, PA, SA.ok, fun q H9 u9 P9 r9 => ?_⟩
            have SA9 := SA.but u9 PA hd0o0
            have SB9 := SB.but u9 PA hd1o0
            have PB9 : OvAt H9 o1 kv1 := u9 _ _ (Ne.symm ho01) PB
            have hBL9 := u9 _ _ (ne_of hBL8 PA fun z => nomatch z) hBL8
            have hOL9 := u9 _ _ (ne_of hOL8 PA fun z => nomatch z) hOL8
            have hSL9 := u9 _ _ (ne_of hSL8 PA fun z => nomatch z) hSL8
            have hpc9 := hpc8.but u9 PA
            refine ⟨_, rfl, _, rfl, BL, _, _, _, rfl, rfl, SqL.of hBL9, at_of (j := 0) rfl rfl, _, rfl, _, rfl, _, rfl, b0, d0, R, C, kv0, kd, spv, spc, hd, by rw [← hspv]; rfl, hpc9, SA9, fun w Ha ua SAa ra => ?_⟩
            have hda := SA9.dc
            have SBa := SB9.but ua hda (Ne.symm hd01)
            have PBa : OvAt Ha o1 kv1 := ua _ _ (Ne.symm hd0o1) PB9
            have PAa : OvAt Ha o0 (deed R C kv0 kd spc hd).2.2 := ua _ _ (Ne.symm hd0o0) P9
            have hBLa := ua _ _ (ne_of hBL9 hda fun z => nomatch z) hBL9
            have hOLa := ua _ _ (ne_of hOL9 hda fun z => nomatch z) hOL9
            have hSLa := ua _ _ (ne_of hSL9 hda fun z => nomatch z) hSL9
            have r9a := r9.but ua hda
            have twa : Two D Ha R C b0 d0 o0 b1 d1 o1 (deed R C kv0 kd spc hd).2.2 kv1 := ⟨SAa, PAa, SBa, PBa⟩
            clear SA PA SB PB SA9 SB9 PB9 hBL9 hOL9 hSL9 hpc9 SBa PBa PAa tw8 hBL8 hOL8 hSL8 hpc8 tw7 hBL7 hOL7 hSL7 hpc tw6 hBL6 hOL6 hSL6 hda SAa P9
            generalize (deed R C kv0 kd spc hd).2.2 = kvn at twa
            generalize (deed R C kv0 kd spc hd).1 = dv at ra r9a
            generalize (deed R C kv0 kd spc hd).2.1 = dm at ra r9a
            obtain ⟨m1, w1, w2⟩ := ra
            obtain ⟨m2, w3, w4⟩ := r9a
            refine ⟨_, rfl, w, _, _, _, rfl, rfl, SqT.of w1, at1, _, rfl, q, _, _, _, rfl, rfl, SqT.of w3, at1, blist dm, blist dm, dp_bools (SqL.of w2), dp_bools (SqL.of w4), sh_bl _, sh_bl _, _, rfl, ?_⟩
            rw [eqv_bl, decide_eq_true rfl]
            refine if_f rfl ?_
            cases dv with
            | none =>
              refine ⟨_, rfl, q, _, _, _, rfl, rfl, SqT.of w3, at0, _, rfl, if_t rfl ?_⟩
              refine ⟨_, rfl, w, _, _, _, rfl, rfl, SqT.of w1, at0, _, rfl, if_f rfl ?_⟩
              refine ⟨_, rfl, q, _, _, _, rfl, rfl, SqT.of w3, at0, _, rfl, if_f rfl ?_⟩
              refine ⟨2, rfl, by decide, by decide, for_range (lo := 0) (n := 2) (fun j σ Hb => ∃ v14, σ = [some (.ref a), some (.int g), some (.int R), some (.int C), some (.int x), some (.ref BL), some (.ref OL), _, _, _, _, _, _, _, v14, none] ∧ Same Ha Hb) ⟨_, rfl, .refl _⟩ ?_ ?_⟩
              · rintro j σ Hb hj ⟨v14, rfl, sb⟩
                have twb := twa.same sb
                have hBLb := sb _ _ hBLa
                have hOLb := sb _ _ hOLa
                match j, hj with
                | 0, _ => exact ⟨_, rfl, _, rfl, BL, _, _, _, rfl, rfl, SqL.of hBLb, at_of (j := 0) rfl rfl, _, rfl, _, rfl, _, rfl, _, rfl, OL, _, _, _, rfl, rfl, SqL.of hOLb, at_of (j := 0) rfl rfl, b0, d0, R, C, _, o0, rfl, twb.s0, twb.p0, fun Hc sc => ⟨true, rfl, _, rfl, sb.trans sc⟩⟩
                | 1, _ => exact ⟨_, rfl, _, rfl, BL, _, _, _, rfl, rfl, SqL.of hBLb, at_of (j := 1) rfl rfl, _, rfl, _, rfl, _, rfl, _, rfl, OL, _, _, _, rfl, rfl, SqL.of hOLb, at_of (j := 1) rfl rfl, b1, d1, R, C, _, o1, rfl, twb.s1, twb.p1, fun Hc sc => ⟨true, rfl, _, rfl, sb.trans sc⟩⟩
                | z + 2, h => exact absurd h (by omega)
              · rintro σ Hb ⟨v14, rfl, sb⟩
                exact ⟨_, _, _, _, _, _, _, _, _, _, rfl, twa.same sb, sb _ _ hBLa, sb _ _ hOLa, sb _ _ hSLa⟩
            | some dz =>
              refine ⟨_, rfl, q, _, _, _, rfl, rfl, SqT.of w3, at0, _, rfl, if_f rfl ?_⟩
              refine ⟨_, rfl, q, _, _, _, rfl, rfl, SqT.of w3, at0, _, rfl, if_t rfl ?_⟩
              refine ⟨_, rfl, w, _, _, _, rfl, rfl, SqT.of w1, at0, _, rfl, true, rfl, ?_⟩
              refine ⟨_, rfl, w, _, _, _, rfl, rfl, SqT.of w1, at0, _, rfl, q, _, _, _, rfl, rfl, SqT.of w3, at0, rfl, _, rfl, ifIN (fun e => absurd rfl e) (fun _ => ?_)⟩
              refine ⟨2, rfl, by decide, by decide, for_range (lo := 0) (n := 2) (fun j σ Hb => ∃ v14, σ = [some (.ref a), some (.int g), some (.int R), some (.int C), some (.int x), some (.ref BL), some (.ref OL), _, _, _, _, _, _, _, v14, none] ∧ Same Ha Hb) ⟨_, rfl, .refl _⟩ ?_ ?_⟩
              · rintro j σ Hb hj ⟨v14, rfl, sb⟩
                have twb := twa.same sb
                have hBLb := sb _ _ hBLa
                have hOLb := sb _ _ hOLa
                match j, hj with
                | 0, _ => exact ⟨_, rfl, _, rfl, BL, _, _, _, rfl, rfl, SqL.of hBLb, at_of (j := 0) rfl rfl, _, rfl, _, rfl, _, rfl, _, rfl, OL, _, _, _, rfl, rfl, SqL.of hOLb, at_of (j := 0) rfl rfl, b0, d0, R, C, _, o0, rfl, twb.s0, twb.p0, fun Hc sc => ⟨true, rfl, _, rfl, sb.trans sc⟩⟩
                | 1, _ => exact ⟨_, rfl, _, rfl, BL, _, _, _, rfl, rfl, SqL.of hBLb, at_of (j := 1) rfl rfl, _, rfl, _, rfl, _, rfl, _, rfl, OL, _, _, _, rfl, rfl, SqL.of hOLb, at_of (j := 1) rfl rfl, b1, d1, R, C, _, o1, rfl, twb.s1, twb.p1, fun Hc sc => ⟨true, rfl, _, rfl, sb.trans sc⟩⟩
                | z + 2, h => exact absurd h (by omega)
              · rintro σ Hb ⟨v14, rfl, sb⟩
                exact ⟨_, _, _, _, _, _, _, _, _, _, rfl, twa.same sb, sb _ _ hBLa, sb _ _ hOLa, sb _ _ hSLa⟩
          · rw [hat]
            have SA := tw8.s1
            have PA := tw8.p1
            have SB := tw8.s0
            have PB := tw8.p0
            refine ⟨_, rfl, _, rfl, _, rfl, _, rfl, OL, _, _, _, rfl, rfl, SqL.of hOL8, at_of (j := 1) rfl rfl, _, rfl, _, rfl, _, rfl, R, C, o1, kv1, kd, spv, spc, hd, by rw [← hspv]; rfl, hpc8, PA, SA.ok, fun q H9 u9 P9 r9 => ?_⟩
            have SA9 := SA.but u9 PA hd1o1
            have SB9 := SB.but u9 PA hd0o1
            have PB9 : OvAt H9 o0 kv0 := u9 _ _ ho01 PB
            have hBL9 := u9 _ _ (ne_of hBL8 PA fun z => nomatch z) hBL8
            have hOL9 := u9 _ _ (ne_of hOL8 PA fun z => nomatch z) hOL8
            have hSL9 := u9 _ _ (ne_of hSL8 PA fun z => nomatch z) hSL8
            have hpc9 := hpc8.but u9 PA
            refine ⟨_, rfl, _, rfl, BL, _, _, _, rfl, rfl, SqL.of hBL9, at_of (j := 1) rfl rfl, _, rfl, _, rfl, _, rfl, b1, d1, R, C, kv1, kd, spv, spc, hd, by rw [← hspv]; rfl, hpc9, SA9, fun w Ha ua SAa ra => ?_⟩
            have hda := SA9.dc
            have SBa := SB9.but ua hda hd01
            have PBa : OvAt Ha o0 kv0 := ua _ _ (Ne.symm hd1o0) PB9
            have PAa : OvAt Ha o1 (deed R C kv1 kd spc hd).2.2 := ua _ _ (Ne.symm hd1o1) P9
            have hBLa := ua _ _ (ne_of hBL9 hda fun z => nomatch z) hBL9
            have hOLa := ua _ _ (ne_of hOL9 hda fun z => nomatch z) hOL9
            have hSLa := ua _ _ (ne_of hSL9 hda fun z => nomatch z) hSL9
            have r9a := r9.but ua hda
            have twa : Two D Ha R C b0 d0 o0 b1 d1 o1 kv0 (deed R C kv1 kd spc hd).2.2 := ⟨SBa, PBa, SAa, PAa⟩
            clear SA PA SB PB SA9 SB9 PB9 hBL9 hOL9 hSL9 hpc9 SBa PBa PAa tw8 hBL8 hOL8 hSL8 hpc8 tw7 hBL7 hOL7 hSL7 hpc tw6 hBL6 hOL6 hSL6 hda SAa P9
            generalize (deed R C kv1 kd spc hd).2.2 = kvn at twa
            generalize (deed R C kv1 kd spc hd).1 = dv at ra r9a
            generalize (deed R C kv1 kd spc hd).2.1 = dm at ra r9a
            obtain ⟨m1, w1, w2⟩ := ra
            obtain ⟨m2, w3, w4⟩ := r9a
            refine ⟨_, rfl, w, _, _, _, rfl, rfl, SqT.of w1, at1, _, rfl, q, _, _, _, rfl, rfl, SqT.of w3, at1, blist dm, blist dm, dp_bools (SqL.of w2), dp_bools (SqL.of w4), sh_bl _, sh_bl _, _, rfl, ?_⟩
            rw [eqv_bl, decide_eq_true rfl]
            refine if_f rfl ?_
            cases dv with
            | none =>
              refine ⟨_, rfl, q, _, _, _, rfl, rfl, SqT.of w3, at0, _, rfl, if_t rfl ?_⟩
              refine ⟨_, rfl, w, _, _, _, rfl, rfl, SqT.of w1, at0, _, rfl, if_f rfl ?_⟩
              refine ⟨_, rfl, q, _, _, _, rfl, rfl, SqT.of w3, at0, _, rfl, if_f rfl ?_⟩
              refine ⟨2, rfl, by decide, by decide, for_range (lo := 0) (n := 2) (fun j σ Hb => ∃ v14, σ = [some (.ref a), some (.int g), some (.int R), some (.int C), some (.int x), some (.ref BL), some (.ref OL), _, _, _, _, _, _, _, v14, none] ∧ Same Ha Hb) ⟨_, rfl, .refl _⟩ ?_ ?_⟩
              · rintro j σ Hb hj ⟨v14, rfl, sb⟩
                have twb := twa.same sb
                have hBLb := sb _ _ hBLa
                have hOLb := sb _ _ hOLa
                match j, hj with
                | 0, _ => exact ⟨_, rfl, _, rfl, BL, _, _, _, rfl, rfl, SqL.of hBLb, at_of (j := 0) rfl rfl, _, rfl, _, rfl, _, rfl, _, rfl, OL, _, _, _, rfl, rfl, SqL.of hOLb, at_of (j := 0) rfl rfl, b0, d0, R, C, _, o0, rfl, twb.s0, twb.p0, fun Hc sc => ⟨true, rfl, _, rfl, sb.trans sc⟩⟩
                | 1, _ => exact ⟨_, rfl, _, rfl, BL, _, _, _, rfl, rfl, SqL.of hBLb, at_of (j := 1) rfl rfl, _, rfl, _, rfl, _, rfl, _, rfl, OL, _, _, _, rfl, rfl, SqL.of hOLb, at_of (j := 1) rfl rfl, b1, d1, R, C, _, o1, rfl, twb.s1, twb.p1, fun Hc sc => ⟨true, rfl, _, rfl, sb.trans sc⟩⟩
                | z + 2, h => exact absurd h (by omega)
              · rintro σ Hb ⟨v14, rfl, sb⟩
                exact ⟨_, _, _, _, _, _, _, _, _, _, rfl, twa.same sb, sb _ _ hBLa, sb _ _ hOLa, sb _ _ hSLa⟩
            | some dz =>
              refine ⟨_, rfl, q, _, _, _, rfl, rfl, SqT.of w3, at0, _, rfl, if_f rfl ?_⟩
              refine ⟨_, rfl, q, _, _, _, rfl, rfl, SqT.of w3, at0, _, rfl, if_t rfl ?_⟩
              refine ⟨_, rfl, w, _, _, _, rfl, rfl, SqT.of w1, at0, _, rfl, true, rfl, ?_⟩
              refine ⟨_, rfl, w, _, _, _, rfl, rfl, SqT.of w1, at0, _, rfl, q, _, _, _, rfl, rfl, SqT.of w3, at0, rfl, _, rfl, ifIN (fun e => absurd rfl e) (fun _ => ?_)⟩
              refine ⟨2, rfl, by decide, by decide, for_range (lo := 0) (n := 2) (fun j σ Hb => ∃ v14, σ = [some (.ref a), some (.int g), some (.int R), some (.int C), some (.int x), some (.ref BL), some (.ref OL), _, _, _, _, _, _, _, v14, none] ∧ Same Ha Hb) ⟨_, rfl, .refl _⟩ ?_ ?_⟩
              · rintro j σ Hb hj ⟨v14, rfl, sb⟩
                have twb := twa.same sb
                have hBLb := sb _ _ hBLa
                have hOLb := sb _ _ hOLa
                match j, hj with
                | 0, _ => exact ⟨_, rfl, _, rfl, BL, _, _, _, rfl, rfl, SqL.of hBLb, at_of (j := 0) rfl rfl, _, rfl, _, rfl, _, rfl, _, rfl, OL, _, _, _, rfl, rfl, SqL.of hOLb, at_of (j := 0) rfl rfl, b0, d0, R, C, _, o0, rfl, twb.s0, twb.p0, fun Hc sc => ⟨true, rfl, _, rfl, sb.trans sc⟩⟩
                | 1, _ => exact ⟨_, rfl, _, rfl, BL, _, _, _, rfl, rfl, SqL.of hBLb, at_of (j := 1) rfl rfl, _, rfl, _, rfl, _, rfl, _, rfl, OL, _, _, _, rfl, rfl, SqL.of hOLb, at_of (j := 1) rfl rfl, b1, d1, R, C, _, o1, rfl, twb.s1, twb.p1, fun Hc sc => ⟨true, rfl, _, rfl, sb.trans sc⟩⟩
                | z + 2, h => exact absurd h (by omega)
              · rintro σ Hb ⟨v14, rfl, sb⟩
                exact ⟨_, _, _, _, _, _, _, _, _, _, rfl, twa.same sb, sb _ _ hBLa, sb _ _ hOLa, sb _ _ hSLa⟩
        · dsimp only
          have tw8 := tw7
          have hBL8 := hBL7
          have hOL8 := hOL7
          have hSL8 := hSL7
          have hpc8 := hpc
          generalize m / 4 % 4 = hd
          refine ⟨_, rfl, _, _, rfl, rfl, ⟨by decide, by decide⟩, _, _, rfl, rfl, (by show (0 : Int) < 4; decide), ?_⟩
          dsimp only
          generalize m / 16 % 4 = kd
          have hat : m / 2 % 2 = 0 ∨ m / 2 % 2 = 1 := by omega
          rcases hat with hat | hat
          · rw [hat]
            have SA := tw8.s0
            have PA := tw8.p0
            have SB := tw8.s1
            have PB := tw8.p1
            refine ⟨_, rfl, _, rfl, _, rfl, _, rfl, OL, _, _, _, rfl, rfl, SqL.of hOL8, at_of (j := 0) rfl rfl, _, rfl, _, rfl, _, rfl, R, C, o0, kv0, kd, spv, spc, hd, by rw [← hspv]; rfl, hpc8, PA, SA.ok, fun q H9 u9 P9 r9 => ?_⟩
            have SA9 := SA.but u9 PA hd0o0
            have SB9 := SB.but u9 PA hd1o0
            have PB9 : OvAt H9 o1 kv1 := u9 _ _ (Ne.symm ho01) PB
            have hBL9 := u9 _ _ (ne_of hBL8 PA fun z => nomatch z) hBL8
            have hOL9 := u9 _ _ (ne_of hOL8 PA fun z => nomatch z) hOL8
            have hSL9 := u9 _ _ (ne_of hSL8 PA fun z => nomatch z) hSL8
            have hpc9 := hpc8.but u9 PA
            refine ⟨_, rfl, _, rfl, BL, _, _, _, rfl, rfl, SqL.of hBL9, at_of (j := 0) rfl rfl, _, rfl, _, rfl, _, rfl, b0, d0, R, C, kv0, kd, spv, spc, hd, by rw [← hspv]; rfl, hpc9, SA9, fun w Ha ua SAa ra => ?_⟩
            have hda := SA9.dc
            have SBa := SB9.but ua hda (Ne.symm hd01)
            have PBa : OvAt Ha o1 kv1 := ua _ _ (Ne.symm hd0o1) PB9
            have PAa : OvAt Ha o0 (deed R C kv0 kd spc hd).2.2 := ua _ _ (Ne.symm hd0o0) P9
            have hBLa := ua _ _ (ne_of hBL9 hda fun z => nomatch z) hBL9
            have hOLa := ua _ _ (ne_of hOL9 hda fun z => nomatch z) hOL9
            have hSLa := ua _ _ (ne_of hSL9 hda fun z => nomatch z) hSL9
            have r9a := r9.but ua hda
            have twa : Two D Ha R C b0 d0 o0 b1 d1 o1 (deed R C kv0 kd spc hd).2.2 kv1 := ⟨SAa, PAa, SBa, PBa⟩
            clear SA PA SB PB SA9 SB9 PB9 hBL9 hOL9 hSL9 hpc9 SBa PBa PAa tw8 hBL8 hOL8 hSL8 hpc8 tw7 hBL7 hOL7 hSL7 hpc tw6 hBL6 hOL6 hSL6 hda SAa P9
            generalize (deed R C kv0 kd spc hd).2.2 = kvn at twa
            generalize (deed R C kv0 kd spc hd).1 = dv at ra r9a
            generalize (deed R C kv0 kd spc hd).2.1 = dm at ra r9a
            obtain ⟨m1, w1, w2⟩ := ra
            obtain ⟨m2, w3, w4⟩ := r9a
            refine ⟨_, rfl, w, _, _, _, rfl, rfl, SqT.of w1, at1, _, rfl, q, _, _, _, rfl, rfl, SqT.of w3, at1, blist dm, blist dm, dp_bools (SqL.of w2), dp_bools (SqL.of w4), sh_bl _, sh_bl _, _, rfl, ?_⟩
            rw [eqv_bl, decide_eq_true rfl]
            refine if_f rfl ?_
            cases dv with
            | none =>
              refine ⟨_, rfl, q, _, _, _, rfl, rfl, SqT.of w3, at0, _, rfl, if_t rfl ?_⟩
              refine ⟨_, rfl, w, _, _, _, rfl, rfl, SqT.of w1, at0, _, rfl, if_f rfl ?_⟩
              refine ⟨_, rfl, q, _, _, _, rfl, rfl, SqT.of w3, at0, _, rfl, if_f rfl ?_⟩
              refine ⟨2, rfl, by decide, by decide, for_range (lo := 0) (n := 2) (fun j σ Hb => ∃ v14, σ = [some (.ref a), some (.int g), some (.int R), some (.int C), some (.int x), some (.ref BL), some (.ref OL), _, _, _, _, _, _, _, v14, none] ∧ Same Ha Hb) ⟨_, rfl, .refl _⟩ ?_ ?_⟩
              · rintro j σ Hb hj ⟨v14, rfl, sb⟩
                have twb := twa.same sb
                have hBLb := sb _ _ hBLa
                have hOLb := sb _ _ hOLa
                match j, hj with
                | 0, _ => exact ⟨_, rfl, _, rfl, BL, _, _, _, rfl, rfl, SqL.of hBLb, at_of (j := 0) rfl rfl, _, rfl, _, rfl, _, rfl, _, rfl, OL, _, _, _, rfl, rfl, SqL.of hOLb, at_of (j := 0) rfl rfl, b0, d0, R, C, _, o0, rfl, twb.s0, twb.p0, fun Hc sc => ⟨true, rfl, _, rfl, sb.trans sc⟩⟩
                | 1, _ => exact ⟨_, rfl, _, rfl, BL, _, _, _, rfl, rfl, SqL.of hBLb, at_of (j := 1) rfl rfl, _, rfl, _, rfl, _, rfl, _, rfl, OL, _, _, _, rfl, rfl, SqL.of hOLb, at_of (j := 1) rfl rfl, b1, d1, R, C, _, o1, rfl, twb.s1, twb.p1, fun Hc sc => ⟨true, rfl, _, rfl, sb.trans sc⟩⟩
                | z + 2, h => exact absurd h (by omega)
              · rintro σ Hb ⟨v14, rfl, sb⟩
                exact ⟨_, _, _, _, _, _, _, _, _, _, rfl, twa.same sb, sb _ _ hBLa, sb _ _ hOLa, sb _ _ hSLa⟩
            | some dz =>
              refine ⟨_, rfl, q, _, _, _, rfl, rfl, SqT.of w3, at0, _, rfl, if_f rfl ?_⟩
              refine ⟨_, rfl, q, _, _, _, rfl, rfl, SqT.of w3, at0, _, rfl, if_t rfl ?_⟩
              refine ⟨_, rfl, w, _, _, _, rfl, rfl, SqT.of w1, at0, _, rfl, true, rfl, ?_⟩
              refine ⟨_, rfl, w, _, _, _, rfl, rfl, SqT.of w1, at0, _, rfl, q, _, _, _, rfl, rfl, SqT.of w3, at0, rfl, _, rfl, ifIN (fun e => absurd rfl e) (fun _ => ?_)⟩
              refine ⟨2, rfl, by decide, by decide, for_range (lo := 0) (n := 2) (fun j σ Hb => ∃ v14, σ = [some (.ref a), some (.int g), some (.int R), some (.int C), some (.int x), some (.ref BL), some (.ref OL), _, _, _, _, _, _, _, v14, none] ∧ Same Ha Hb) ⟨_, rfl, .refl _⟩ ?_ ?_⟩
              · rintro j σ Hb hj ⟨v14, rfl, sb⟩
                have twb := twa.same sb
                have hBLb := sb _ _ hBLa
                have hOLb := sb _ _ hOLa
                match j, hj with
                | 0, _ => exact ⟨_, rfl, _, rfl, BL, _, _, _, rfl, rfl, SqL.of hBLb, at_of (j := 0) rfl rfl, _, rfl, _, rfl, _, rfl, _, rfl, OL, _, _, _, rfl, rfl, SqL.of hOLb, at_of (j := 0) rfl rfl, b0, d0, R, C, _, o0, rfl, twb.s0, twb.p0, fun Hc sc => ⟨true, rfl, _, rfl, sb.trans sc⟩⟩
                | 1, _ => exact ⟨_, rfl, _, rfl, BL, _, _, _, rfl, rfl, SqL.of hBLb, at_of (j := 1) rfl rfl, _, rfl, _, rfl, _, rfl, _, rfl, OL, _, _, _, rfl, rfl, SqL.of hOLb, at_of (j := 1) rfl rfl, b1, d1, R, C, _, o1, rfl, twb.s1, twb.p1, fun Hc sc => ⟨true, rfl, _, rfl, sb.trans sc⟩⟩
                | z + 2, h => exact absurd h (by omega)
              · rintro σ Hb ⟨v14, rfl, sb⟩
                exact ⟨_, _, _, _, _, _, _, _, _, _, rfl, twa.same sb, sb _ _ hBLa, sb _ _ hOLa, sb _ _ hSLa⟩
          · rw [hat]
            have SA := tw8.s1
            have PA := tw8.p1
            have SB := tw8.s0
            have PB := tw8.p0
            refine ⟨_, rfl, _, rfl, _, rfl, _, rfl, OL, _, _, _, rfl, rfl, SqL.of hOL8, at_of (j := 1) rfl rfl, _, rfl, _, rfl, _, rfl, R, C, o1, kv1, kd, spv, spc, hd, by rw [← hspv]; rfl, hpc8, PA, SA.ok, fun q H9 u9 P9 r9 => ?_⟩
            have SA9 := SA.but u9 PA hd1o1
            have SB9 := SB.but u9 PA hd0o1
            have PB9 : OvAt H9 o0 kv0 := u9 _ _ ho01 PB
            have hBL9 := u9 _ _ (ne_of hBL8 PA fun z => nomatch z) hBL8
            have hOL9 := u9 _ _ (ne_of hOL8 PA fun z => nomatch z) hOL8
            have hSL9 := u9 _ _ (ne_of hSL8 PA fun z => nomatch z) hSL8
            have hpc9 := hpc8.but u9 PA
            refine ⟨_, rfl, _, rfl, BL, _, _, _, rfl, rfl, SqL.of hBL9, at_of (j := 1) rfl rfl, _, rfl, _, rfl, _, rfl, b1, d1, R, C, kv1, kd, spv, spc, hd, by rw [← hspv]; rfl, hpc9, SA9, fun w Ha ua SAa ra => ?_⟩
            have hda := SA9.dc
            have SBa := SB9.but ua hda hd01
            have PBa : OvAt Ha o0 kv0 := ua _ _ (Ne.symm hd1o0) PB9
            have PAa : OvAt Ha o1 (deed R C kv1 kd spc hd).2.2 := ua _ _ (Ne.symm hd1o1) P9
            have hBLa := ua _ _ (ne_of hBL9 hda fun z => nomatch z) hBL9
            have hOLa := ua _ _ (ne_of hOL9 hda fun z => nomatch z) hOL9
            have hSLa := ua _ _ (ne_of hSL9 hda fun z => nomatch z) hSL9
            have r9a := r9.but ua hda
            have twa : Two D Ha R C b0 d0 o0 b1 d1 o1 kv0 (deed R C kv1 kd spc hd).2.2 := ⟨SBa, PBa, SAa, PAa⟩
            clear SA PA SB PB SA9 SB9 PB9 hBL9 hOL9 hSL9 hpc9 SBa PBa PAa tw8 hBL8 hOL8 hSL8 hpc8 tw7 hBL7 hOL7 hSL7 hpc tw6 hBL6 hOL6 hSL6 hda SAa P9
            generalize (deed R C kv1 kd spc hd).2.2 = kvn at twa
            generalize (deed R C kv1 kd spc hd).1 = dv at ra r9a
            generalize (deed R C kv1 kd spc hd).2.1 = dm at ra r9a
            obtain ⟨m1, w1, w2⟩ := ra
            obtain ⟨m2, w3, w4⟩ := r9a
            refine ⟨_, rfl, w, _, _, _, rfl, rfl, SqT.of w1, at1, _, rfl, q, _, _, _, rfl, rfl, SqT.of w3, at1, blist dm, blist dm, dp_bools (SqL.of w2), dp_bools (SqL.of w4), sh_bl _, sh_bl _, _, rfl, ?_⟩
            rw [eqv_bl, decide_eq_true rfl]
            refine if_f rfl ?_
            cases dv with
            | none =>
              refine ⟨_, rfl, q, _, _, _, rfl, rfl, SqT.of w3, at0, _, rfl, if_t rfl ?_⟩
              refine ⟨_, rfl, w, _, _, _, rfl, rfl, SqT.of w1, at0, _, rfl, if_f rfl ?_⟩
              refine ⟨_, rfl, q, _, _, _, rfl, rfl, SqT.of w3, at0, _, rfl, if_f rfl ?_⟩
              refine ⟨2, rfl, by decide, by decide, for_range (lo := 0) (n := 2) (fun j σ Hb => ∃ v14, σ = [some (.ref a), some (.int g), some (.int R), some (.int C), some (.int x), some (.ref BL), some (.ref OL), _, _, _, _, _, _, _, v14, none] ∧ Same Ha Hb) ⟨_, rfl, .refl _⟩ ?_ ?_⟩
              · rintro j σ Hb hj ⟨v14, rfl, sb⟩
                have twb := twa.same sb
                have hBLb := sb _ _ hBLa
                have hOLb := sb _ _ hOLa
                match j, hj with
                | 0, _ => exact ⟨_, rfl, _, rfl, BL, _, _, _, rfl, rfl, SqL.of hBLb, at_of (j := 0) rfl rfl, _, rfl, _, rfl, _, rfl, _, rfl, OL, _, _, _, rfl, rfl, SqL.of hOLb, at_of (j := 0) rfl rfl, b0, d0, R, C, _, o0, rfl, twb.s0, twb.p0, fun Hc sc => ⟨true, rfl, _, rfl, sb.trans sc⟩⟩
                | 1, _ => exact ⟨_, rfl, _, rfl, BL, _, _, _, rfl, rfl, SqL.of hBLb, at_of (j := 1) rfl rfl, _, rfl, _, rfl, _, rfl, _, rfl, OL, _, _, _, rfl, rfl, SqL.of hOLb, at_of (j := 1) rfl rfl, b1, d1, R, C, _, o1, rfl, twb.s1, twb.p1, fun Hc sc => ⟨true, rfl, _, rfl, sb.trans sc⟩⟩
                | z + 2, h => exact absurd h (by omega)
              · rintro σ Hb ⟨v14, rfl, sb⟩
                exact ⟨_, _, _, _, _, _, _, _, _, _, rfl, twa.same sb, sb _ _ hBLa, sb _ _ hOLa, sb _ _ hSLa⟩
            | some dz =>
              refine ⟨_, rfl, q, _, _, _, rfl, rfl, SqT.of w3, at0, _, rfl, if_f rfl ?_⟩
              refine ⟨_, rfl, q, _, _, _, rfl, rfl, SqT.of w3, at0, _, rfl, if_t rfl ?_⟩
              refine ⟨_, rfl, w, _, _, _, rfl, rfl, SqT.of w1, at0, _, rfl, true, rfl, ?_⟩
              refine ⟨_, rfl, w, _, _, _, rfl, rfl, SqT.of w1, at0, _, rfl, q, _, _, _, rfl, rfl, SqT.of w3, at0, rfl, _, rfl, ifIN (fun e => absurd rfl e) (fun _ => ?_)⟩
              refine ⟨2, rfl, by decide, by decide, for_range (lo := 0) (n := 2) (fun j σ Hb => ∃ v14, σ = [some (.ref a), some (.int g), some (.int R), some (.int C), some (.int x), some (.ref BL), some (.ref OL), _, _, _, _, _, _, _, v14, none] ∧ Same Ha Hb) ⟨_, rfl, .refl _⟩ ?_ ?_⟩
              · rintro j σ Hb hj ⟨v14, rfl, sb⟩
                have twb := twa.same sb
                have hBLb := sb _ _ hBLa
                have hOLb := sb _ _ hOLa
                match j, hj with
                | 0, _ => exact ⟨_, rfl, _, rfl, BL, _, _, _, rfl, rfl, SqL.of hBLb, at_of (j := 0) rfl rfl, _, rfl, _, rfl, _, rfl, _, rfl, OL, _, _, _, rfl, rfl, SqL.of hOLb, at_of (j := 0) rfl rfl, b0, d0, R, C, _, o0, rfl, twb.s0, twb.p0, fun Hc sc => ⟨true, rfl, _, rfl, sb.trans sc⟩⟩
                | 1, _ => exact ⟨_, rfl, _, rfl, BL, _, _, _, rfl, rfl, SqL.of hBLb, at_of (j := 1) rfl rfl, _, rfl, _, rfl, _, rfl, _, rfl, OL, _, _, _, rfl, rfl, SqL.of hOLb, at_of (j := 1) rfl rfl, b1, d1, R, C, _, o1, rfl, twb.s1, twb.p1, fun Hc sc => ⟨true, rfl, _, rfl, sb.trans sc⟩⟩
                | z + 2, h => exact absurd h (by omega)
              · rintro σ Hb ⟨v14, rfl, sb⟩
                exact ⟨_, _, _, _, _, _, _, _, _, _, rfl, twa.same sb, sb _ _ hBLa, sb _ _ hOLa, sb _ _ hSLa⟩
    · rintro σ H5 ⟨v7, v8, v9, v10, v11, v12, v13, v14, kv0, kv1, rfl, tw, hBL, hOL, hSL⟩
      have S0 := tw.s0
      obtain ⟨⟨dxa, hba⟩, _⟩ := id S0
      refine ⟨_, rfl, BL, _, _, _, rfl, rfl, SqL.of hBL, at_of (j := 0) rfl rfl, b0, dxa, _, rfl, hba, fl_no _ _ _ (by decide +kernel) (by decide +kernel) (by decide +kernel), b0, d0, R, C, kv0, rfl, S0, _, rfl, BL, _, _, _, rfl, rfl, SqL.of hBL, at_of (j := 0) rfl rfl, b0, dxa, _, rfl, hba, fl_no _ _ _ (by decide +kernel) (by decide +kernel) (by decide +kernel), b0, d0, R, C, kv0, rfl, S0, szl, fun TL nTL => ?_⟩
      have sT := same_upd (o := .lst [V.int R, V.int C]) nTL
      refine ⟨_, rfl, TL, _, _, _, rfl, rfl, SqL.of upd_same, at_of (j := 0) rfl rfl, _, rfl, true, rfl, ?_⟩
      refine ⟨_, rfl, TL, _, _, _, rfl, rfl, SqL.of upd_same, at_of (j := 1) rfl rfl, _, rfl, true, rfl, ?_⟩
      refine ⟨_, rfl, _, rfl, _, rfl, szl, fun T2 nT2 => ?_⟩
      have sT2 := same_upd (o := .lst [V.int R, V.int C]) nT2
      refine ⟨ilist [R, C], ilist [R, C], dp_ints (SqL.of (sT2 _ _ upd_same)), dp_ints (SqL.of upd_same), sh_il _, sh_il _, ?_⟩
      rw [eqv_il, decide_eq_true rfl]
      exact k _

end
theorem all_mk {l : PySem.W.OpenLaw} {w : World} {K : PySem.W.Frag} {h : Heap} {mg : Str → Option Value} {fa : Addr} (X : K.In h) (G : h.Ns mainGlobals mg) (hfa : mg "law" = some (.ref fa))
    {C eBoardError eNoBoard eNoCell eNoHand eCellTaken eCellEmpty f_law_cell_at f_B_init f_law_no_board f_law_mark f_law_due f_B_has f_B_see_cell f_B_lift f_B_owner f_see_hand f_B_put f_law_did f_law_whole f_B_rows f_B_columns f_cells_of f_B_empties f_law_is_cells f_law_empties_right f_law : Addr}
    {tG : Tok}
    {oc_law_cell_at kV_law_cell_at dc_law_cell_at pm_law_cell_at cd_law_cell_at ct_law_cell_at : Value} {od_law_cell_at an_law_cell_at : Option Addr} {sl_law_cell_at : Array (Option Value)}
    {oc_B_init kV_B_init dc_B_init pm_B_init cd_B_init ct_B_init : Value} {od_B_init an_B_init : Option Addr} {sl_B_init : Array (Option Value)}
    {oc_law_no_board kV_law_no_board dc_law_no_board pm_law_no_board cd_law_no_board ct_law_no_board : Value} {od_law_no_board an_law_no_board : Option Addr} {sl_law_no_board : Array (Option Value)}
    {oc_law_mark kV_law_mark dc_law_mark pm_law_mark cd_law_mark ct_law_mark : Value} {od_law_mark an_law_mark : Option Addr} {sl_law_mark : Array (Option Value)}
    {oc_law_due kV_law_due dc_law_due pm_law_due cd_law_due ct_law_due : Value} {od_law_due an_law_due : Option Addr} {sl_law_due : Array (Option Value)}
    {oc_B_has kV_B_has dc_B_has pm_B_has cd_B_has ct_B_has : Value} {od_B_has an_B_has : Option Addr} {sl_B_has : Array (Option Value)}
    {oc_B_see_cell kV_B_see_cell dc_B_see_cell pm_B_see_cell cd_B_see_cell ct_B_see_cell : Value} {od_B_see_cell an_B_see_cell : Option Addr} {sl_B_see_cell : Array (Option Value)}
    {oc_B_lift kV_B_lift dc_B_lift pm_B_lift cd_B_lift ct_B_lift : Value} {od_B_lift an_B_lift : Option Addr} {sl_B_lift : Array (Option Value)}
    {oc_B_owner kV_B_owner dc_B_owner pm_B_owner cd_B_owner ct_B_owner : Value} {od_B_owner an_B_owner : Option Addr} {sl_B_owner : Array (Option Value)}
    {oc_see_hand kV_see_hand dc_see_hand pm_see_hand cd_see_hand ct_see_hand : Value} {od_see_hand an_see_hand : Option Addr} {sl_see_hand : Array (Option Value)}
    {oc_B_put kV_B_put dc_B_put pm_B_put cd_B_put ct_B_put : Value} {od_B_put an_B_put : Option Addr} {sl_B_put : Array (Option Value)}
    {oc_law_did kV_law_did dc_law_did pm_law_did cd_law_did ct_law_did : Value} {od_law_did an_law_did : Option Addr} {sl_law_did : Array (Option Value)}
    {oc_law_whole kV_law_whole dc_law_whole pm_law_whole cd_law_whole ct_law_whole : Value} {od_law_whole an_law_whole : Option Addr} {sl_law_whole : Array (Option Value)}
    {oc_B_rows kV_B_rows dc_B_rows pm_B_rows cd_B_rows ct_B_rows : Value} {od_B_rows an_B_rows : Option Addr} {sl_B_rows : Array (Option Value)}
    {oc_B_columns kV_B_columns dc_B_columns pm_B_columns cd_B_columns ct_B_columns : Value} {od_B_columns an_B_columns : Option Addr} {sl_B_columns : Array (Option Value)}
    {oc_cells_of kV_cells_of dc_cells_of pm_cells_of cd_cells_of ct_cells_of : Value} {od_cells_of an_cells_of : Option Addr} {sl_cells_of : Array (Option Value)}
    {oc_B_empties kV_B_empties dc_B_empties pm_B_empties cd_B_empties ct_B_empties : Value} {od_B_empties an_B_empties : Option Addr} {sl_B_empties : Array (Option Value)}
    {oc_law_is_cells kV_law_is_cells dc_law_is_cells pm_law_is_cells cd_law_is_cells ct_law_is_cells : Value} {od_law_is_cells an_law_is_cells : Option Addr} {sl_law_is_cells : Array (Option Value)}
    {oc_law_empties_right kV_law_empties_right dc_law_empties_right pm_law_empties_right cd_law_empties_right ct_law_empties_right : Value} {od_law_empties_right an_law_empties_right : Option Addr} {sl_law_empties_right : Array (Option Value)}
    {oc_law kV_law dc_law pm_law cd_law ct_law : Value} {od_law an_law : Option Addr} {sl_law : Array (Option Value)}
    (aC : PySem.W.nsIn K mainGlobals "Board" = some (some (.ref C)))
    (g_BoardError : PySem.W.nsIn K mainGlobals "BoardError" = some (some (.ref eBoardError)))
    (x_BoardError : PySem.W.excIn K eBoardError [.type "ValueError", .type "Exception", .type "BaseException", .type "object"] "ValueError.__new__" = true)
    (k_BoardError : PySem.W.keepIn K (.ref eBoardError) = true)
    (b_BoardError : PySem.W.subIn K (.ref eBoardError) (.type "BaseException") = some true)
    (t_BoardError : PySem.W.typeIn K (.ref eBoardError) = some (.type "type"))
    (g_NoBoard : PySem.W.nsIn K mainGlobals "NoBoard" = some (some (.ref eNoBoard)))
    (x_NoBoard : PySem.W.excIn K eNoBoard [.type "ValueError", .type "Exception", .type "BaseException", .type "object"] "ValueError.__new__" = true)
    (k_NoBoard : PySem.W.keepIn K (.ref eNoBoard) = true)
    (b_NoBoard : PySem.W.subIn K (.ref eNoBoard) (.type "BaseException") = some true)
    (t_NoBoard : PySem.W.typeIn K (.ref eNoBoard) = some (.type "type"))
    (g_NoCell : PySem.W.nsIn K mainGlobals "NoCell" = some (some (.ref eNoCell)))
    (x_NoCell : PySem.W.excIn K eNoCell [.type "ValueError", .type "Exception", .type "BaseException", .type "object"] "ValueError.__new__" = true)
    (k_NoCell : PySem.W.keepIn K (.ref eNoCell) = true)
    (b_NoCell : PySem.W.subIn K (.ref eNoCell) (.type "BaseException") = some true)
    (t_NoCell : PySem.W.typeIn K (.ref eNoCell) = some (.type "type"))
    (g_NoHand : PySem.W.nsIn K mainGlobals "NoHand" = some (some (.ref eNoHand)))
    (x_NoHand : PySem.W.excIn K eNoHand [.type "ValueError", .type "Exception", .type "BaseException", .type "object"] "ValueError.__new__" = true)
    (k_NoHand : PySem.W.keepIn K (.ref eNoHand) = true)
    (b_NoHand : PySem.W.subIn K (.ref eNoHand) (.type "BaseException") = some true)
    (t_NoHand : PySem.W.typeIn K (.ref eNoHand) = some (.type "type"))
    (g_CellTaken : PySem.W.nsIn K mainGlobals "CellTaken" = some (some (.ref eCellTaken)))
    (x_CellTaken : PySem.W.excIn K eCellTaken [.type "ValueError", .type "Exception", .type "BaseException", .type "object"] "ValueError.__new__" = true)
    (k_CellTaken : PySem.W.keepIn K (.ref eCellTaken) = true)
    (b_CellTaken : PySem.W.subIn K (.ref eCellTaken) (.type "BaseException") = some true)
    (t_CellTaken : PySem.W.typeIn K (.ref eCellTaken) = some (.type "type"))
    (g_CellEmpty : PySem.W.nsIn K mainGlobals "CellEmpty" = some (some (.ref eCellEmpty)))
    (x_CellEmpty : PySem.W.excIn K eCellEmpty [.type "ValueError", .type "Exception", .type "BaseException", .type "object"] "ValueError.__new__" = true)
    (k_CellEmpty : PySem.W.keepIn K (.ref eCellEmpty) = true)
    (b_CellEmpty : PySem.W.subIn K (.ref eCellEmpty) (.type "BaseException") = some true)
    (t_CellEmpty : PySem.W.typeIn K (.ref eCellEmpty) = some (.type "type"))
    (u_NoBoard_NoBoard : PySem.W.subIn K (.ref eNoBoard) (.ref eNoBoard) = some true)
    (o_NoBoard : PySem.W.isClsIn K eNoBoard = true)
    (u_NoCell_BoardError : PySem.W.subIn K (.ref eNoCell) (.ref eBoardError) = some true)
    (o_BoardError : PySem.W.isClsIn K eBoardError = true)
    (q_NoCell_hg : PySem.W.findIn K (.ref eNoCell) "__getattribute__" = some (some (.builtin "BaseException.__getattribute__")))
    (q_NoCell_hk : PySem.W.findIn K (.ref eNoCell) "__getattr__" = some none)
    (q_NoCell_hd : PySem.W.hasDictIn K eNoCell = true)
    (q_NoCell_ha : PySem.W.findIn K (.ref eNoCell) "__class__" = some (some (.builtin "object.__class__")))
    (q_NoCell_hm : PySem.W.mroIn K eNoCell (.type "object") = some true)
    (q_hn : PySem.W.specialIn K (.builtin "object.__class__") "__get__" = some (some (.builtin "getset_descriptor.__get__")))
    (q_ht : PySem.W.takesIn K (.builtin "object.__class__") = some true)
    (u_NoCell_NoCell : PySem.W.subIn K (.ref eNoCell) (.ref eNoCell) = some true)
    (o_NoCell : PySem.W.isClsIn K eNoCell = true)
    (u_NoCell_NoHand : PySem.W.subIn K (.ref eNoCell) (.ref eNoHand) = some false)
    (o_NoHand : PySem.W.isClsIn K eNoHand = true)
    (u_NoCell_CellTaken : PySem.W.subIn K (.ref eNoCell) (.ref eCellTaken) = some false)
    (o_CellTaken : PySem.W.isClsIn K eCellTaken = true)
    (u_NoCell_CellEmpty : PySem.W.subIn K (.ref eNoCell) (.ref eCellEmpty) = some false)
    (o_CellEmpty : PySem.W.isClsIn K eCellEmpty = true)
    (u_NoCell_NoBoard : PySem.W.subIn K (.ref eNoCell) (.ref eNoBoard) = some false)
    (u_NoCell_ValueError : PySem.W.subIn K (.ref eNoCell) (.type "ValueError") = some true)
    (u_NoHand_BoardError : PySem.W.subIn K (.ref eNoHand) (.ref eBoardError) = some true)
    (q_NoHand_hg : PySem.W.findIn K (.ref eNoHand) "__getattribute__" = some (some (.builtin "BaseException.__getattribute__")))
    (q_NoHand_hk : PySem.W.findIn K (.ref eNoHand) "__getattr__" = some none)
    (q_NoHand_hd : PySem.W.hasDictIn K eNoHand = true)
    (q_NoHand_ha : PySem.W.findIn K (.ref eNoHand) "__class__" = some (some (.builtin "object.__class__")))
    (q_NoHand_hm : PySem.W.mroIn K eNoHand (.type "object") = some true)
    (u_NoHand_NoCell : PySem.W.subIn K (.ref eNoHand) (.ref eNoCell) = some false)
    (u_NoHand_NoHand : PySem.W.subIn K (.ref eNoHand) (.ref eNoHand) = some true)
    (u_NoHand_CellTaken : PySem.W.subIn K (.ref eNoHand) (.ref eCellTaken) = some false)
    (u_NoHand_CellEmpty : PySem.W.subIn K (.ref eNoHand) (.ref eCellEmpty) = some false)
    (u_NoHand_NoBoard : PySem.W.subIn K (.ref eNoHand) (.ref eNoBoard) = some false)
    (u_NoHand_ValueError : PySem.W.subIn K (.ref eNoHand) (.type "ValueError") = some true)
    (u_CellTaken_BoardError : PySem.W.subIn K (.ref eCellTaken) (.ref eBoardError) = some true)
    (q_CellTaken_hg : PySem.W.findIn K (.ref eCellTaken) "__getattribute__" = some (some (.builtin "BaseException.__getattribute__")))
    (q_CellTaken_hk : PySem.W.findIn K (.ref eCellTaken) "__getattr__" = some none)
    (q_CellTaken_hd : PySem.W.hasDictIn K eCellTaken = true)
    (q_CellTaken_ha : PySem.W.findIn K (.ref eCellTaken) "__class__" = some (some (.builtin "object.__class__")))
    (q_CellTaken_hm : PySem.W.mroIn K eCellTaken (.type "object") = some true)
    (u_CellTaken_NoCell : PySem.W.subIn K (.ref eCellTaken) (.ref eNoCell) = some false)
    (u_CellTaken_CellTaken : PySem.W.subIn K (.ref eCellTaken) (.ref eCellTaken) = some true)
    (u_CellTaken_NoHand : PySem.W.subIn K (.ref eCellTaken) (.ref eNoHand) = some false)
    (u_CellTaken_CellEmpty : PySem.W.subIn K (.ref eCellTaken) (.ref eCellEmpty) = some false)
    (u_CellTaken_NoBoard : PySem.W.subIn K (.ref eCellTaken) (.ref eNoBoard) = some false)
    (u_CellTaken_ValueError : PySem.W.subIn K (.ref eCellTaken) (.type "ValueError") = some true)
    (u_CellEmpty_BoardError : PySem.W.subIn K (.ref eCellEmpty) (.ref eBoardError) = some true)
    (q_CellEmpty_hg : PySem.W.findIn K (.ref eCellEmpty) "__getattribute__" = some (some (.builtin "BaseException.__getattribute__")))
    (q_CellEmpty_hk : PySem.W.findIn K (.ref eCellEmpty) "__getattr__" = some none)
    (q_CellEmpty_hd : PySem.W.hasDictIn K eCellEmpty = true)
    (q_CellEmpty_ha : PySem.W.findIn K (.ref eCellEmpty) "__class__" = some (some (.builtin "object.__class__")))
    (q_CellEmpty_hm : PySem.W.mroIn K eCellEmpty (.type "object") = some true)
    (u_CellEmpty_NoCell : PySem.W.subIn K (.ref eCellEmpty) (.ref eNoCell) = some false)
    (u_CellEmpty_CellEmpty : PySem.W.subIn K (.ref eCellEmpty) (.ref eCellEmpty) = some true)
    (u_CellEmpty_NoHand : PySem.W.subIn K (.ref eCellEmpty) (.ref eNoHand) = some false)
    (u_CellEmpty_CellTaken : PySem.W.subIn K (.ref eCellEmpty) (.ref eCellTaken) = some false)
    (u_CellEmpty_NoBoard : PySem.W.subIn K (.ref eCellEmpty) (.ref eNoBoard) = some false)
    (u_CellEmpty_ValueError : PySem.W.subIn K (.ref eCellEmpty) (.type "ValueError") = some true)
    (pg : PySem.W.plainGet K C Str.empty = true)
    (hd : PySem.W.hasDictIn K C = true)
    (po : PySem.W.plainOver K C = true)
    (sa : PySem.W.findIn K (.ref C) "__setattr__" = some (some (.builtin "object.__setattr__")))
    (mk : PySem.W.makesIn K C = true)
    (kc : PySem.W.keepIn K (.ref C) = true)
    (nH : PySem.W.findIn K (.ref C) "height" = some none)
    (nW : PySem.W.findIn K (.ref C) "width" = some none)
    (nO : PySem.W.findIn K (.ref C) "owners" = some none)
    (aG : PySem.W.nsIn K mainGlobals "GREATEST" = some (some (.int 10 tG)))
    (z_len : PySem.W.nsIn K mainGlobals "len" = some none)
    (z_range : PySem.W.nsIn K mainGlobals "range" = some none)
    (z_isinstance : PySem.W.nsIn K mainGlobals "isinstance" = some none)
    (z_min : PySem.W.nsIn K mainGlobals "min" = some none)
    (z_sorted : PySem.W.nsIn K mainGlobals "sorted" = some none)
    (z_list : PySem.W.nsIn K mainGlobals "list" = some none)
    (z_set : PySem.W.nsIn K mainGlobals "set" = some none)
    (z_int : PySem.W.nsIn K mainGlobals "int" = some none)
    (z_bool : PySem.W.nsIn K mainGlobals "bool" = some none)
    (z_tuple : PySem.W.nsIn K mainGlobals "tuple" = some none)
    (z_str : PySem.W.nsIn K mainGlobals "str" = some none)
    (z_ValueError : PySem.W.nsIn K mainGlobals "ValueError" = some none)
    (a_law_cell_at : PySem.W.nsIn K mainGlobals "_law_cell_at" = some (some (.ref f_law_cell_at)))
    (l_law_cell_at : K.lookup f_law_cell_at = some ⟨oc_law_cell_at, od_law_cell_at, .func (PySem.W.fnOf "_law_cell_at" "_law_cell_at" (defArgs s_law_cell_at) (defBody s_law_cell_at) (defScope s_law_cell_at) .none kV_law_cell_at dc_law_cell_at pm_law_cell_at an_law_cell_at cd_law_cell_at ct_law_cell_at), sl_law_cell_at⟩)
    (w_law_cell_at : PySem.W.codeIn K cd_law_cell_at "_law_cell_at" = true)
    (p_law_cell_at : PySem.W.keepIn K (.ref f_law_cell_at) = true)
    (a_B_init : PySem.W.findIn K (.ref C) "__init__" = some (some (.ref f_B_init)))
    (j_B_init : PySem.W.isFn K (.ref f_B_init) = true)
    (l_B_init : K.lookup f_B_init = some ⟨oc_B_init, od_B_init, .func (PySem.W.fnOf "__init__" "Board.__init__" (defArgs s_B_init) (defBody s_B_init) (defScope s_B_init) .none kV_B_init dc_B_init pm_B_init an_B_init cd_B_init ct_B_init), sl_B_init⟩)
    (w_B_init : PySem.W.codeIn K cd_B_init "Board.__init__" = true)
    (p_B_init : PySem.W.keepIn K (.ref f_B_init) = true)
    (a_law_no_board : PySem.W.nsIn K mainGlobals "_law_no_board" = some (some (.ref f_law_no_board)))
    (l_law_no_board : K.lookup f_law_no_board = some ⟨oc_law_no_board, od_law_no_board, .func (PySem.W.fnOf "_law_no_board" "_law_no_board" (defArgs s_law_no_board) (defBody s_law_no_board) (defScope s_law_no_board) .none kV_law_no_board dc_law_no_board pm_law_no_board an_law_no_board cd_law_no_board ct_law_no_board), sl_law_no_board⟩)
    (w_law_no_board : PySem.W.codeIn K cd_law_no_board "_law_no_board" = true)
    (p_law_no_board : PySem.W.keepIn K (.ref f_law_no_board) = true)
    (a_law_mark : PySem.W.nsIn K mainGlobals "_law_mark" = some (some (.ref f_law_mark)))
    (l_law_mark : K.lookup f_law_mark = some ⟨oc_law_mark, od_law_mark, .func (PySem.W.fnOf "_law_mark" "_law_mark" (defArgs s_law_mark) (defBody s_law_mark) (defScope s_law_mark) .none kV_law_mark dc_law_mark pm_law_mark an_law_mark cd_law_mark ct_law_mark), sl_law_mark⟩)
    (w_law_mark : PySem.W.codeIn K cd_law_mark "_law_mark" = true)
    (p_law_mark : PySem.W.keepIn K (.ref f_law_mark) = true)
    (a_law_due : PySem.W.nsIn K mainGlobals "_law_due" = some (some (.ref f_law_due)))
    (l_law_due : K.lookup f_law_due = some ⟨oc_law_due, od_law_due, .func (PySem.W.fnOf "_law_due" "_law_due" (defArgs s_law_due) (defBody s_law_due) (defScope s_law_due) .none kV_law_due dc_law_due pm_law_due an_law_due cd_law_due ct_law_due), sl_law_due⟩)
    (w_law_due : PySem.W.codeIn K cd_law_due "_law_due" = true)
    (p_law_due : PySem.W.keepIn K (.ref f_law_due) = true)
    (a_B_has : PySem.W.findIn K (.ref C) "has" = some (some (.ref f_B_has)))
    (j_B_has : PySem.W.isFn K (.ref f_B_has) = true)
    (l_B_has : K.lookup f_B_has = some ⟨oc_B_has, od_B_has, .func (PySem.W.fnOf "has" "Board.has" (defArgs s_B_has) (defBody s_B_has) (defScope s_B_has) .none kV_B_has dc_B_has pm_B_has an_B_has cd_B_has ct_B_has), sl_B_has⟩)
    (w_B_has : PySem.W.codeIn K cd_B_has "Board.has" = true)
    (p_B_has : PySem.W.keepIn K (.ref f_B_has) = true)
    (a_B_see_cell : PySem.W.findIn K (.ref C) "see_cell" = some (some (.ref f_B_see_cell)))
    (j_B_see_cell : PySem.W.isFn K (.ref f_B_see_cell) = true)
    (l_B_see_cell : K.lookup f_B_see_cell = some ⟨oc_B_see_cell, od_B_see_cell, .func (PySem.W.fnOf "see_cell" "Board.see_cell" (defArgs s_B_see_cell) (defBody s_B_see_cell) (defScope s_B_see_cell) .none kV_B_see_cell dc_B_see_cell pm_B_see_cell an_B_see_cell cd_B_see_cell ct_B_see_cell), sl_B_see_cell⟩)
    (w_B_see_cell : PySem.W.codeIn K cd_B_see_cell "Board.see_cell" = true)
    (p_B_see_cell : PySem.W.keepIn K (.ref f_B_see_cell) = true)
    (a_B_lift : PySem.W.findIn K (.ref C) "lift" = some (some (.ref f_B_lift)))
    (j_B_lift : PySem.W.isFn K (.ref f_B_lift) = true)
    (l_B_lift : K.lookup f_B_lift = some ⟨oc_B_lift, od_B_lift, .func (PySem.W.fnOf "lift" "Board.lift" (defArgs s_B_lift) (defBody s_B_lift) (defScope s_B_lift) .none kV_B_lift dc_B_lift pm_B_lift an_B_lift cd_B_lift ct_B_lift), sl_B_lift⟩)
    (w_B_lift : PySem.W.codeIn K cd_B_lift "Board.lift" = true)
    (p_B_lift : PySem.W.keepIn K (.ref f_B_lift) = true)
    (a_B_owner : PySem.W.findIn K (.ref C) "owner" = some (some (.ref f_B_owner)))
    (j_B_owner : PySem.W.isFn K (.ref f_B_owner) = true)
    (l_B_owner : K.lookup f_B_owner = some ⟨oc_B_owner, od_B_owner, .func (PySem.W.fnOf "owner" "Board.owner" (defArgs s_B_owner) (defBody s_B_owner) (defScope s_B_owner) .none kV_B_owner dc_B_owner pm_B_owner an_B_owner cd_B_owner ct_B_owner), sl_B_owner⟩)
    (w_B_owner : PySem.W.codeIn K cd_B_owner "Board.owner" = true)
    (p_B_owner : PySem.W.keepIn K (.ref f_B_owner) = true)
    (a_see_hand : PySem.W.nsIn K mainGlobals "see_hand" = some (some (.ref f_see_hand)))
    (l_see_hand : K.lookup f_see_hand = some ⟨oc_see_hand, od_see_hand, .func (PySem.W.fnOf "see_hand" "see_hand" (defArgs s_see_hand) (defBody s_see_hand) (defScope s_see_hand) .none kV_see_hand dc_see_hand pm_see_hand an_see_hand cd_see_hand ct_see_hand), sl_see_hand⟩)
    (w_see_hand : PySem.W.codeIn K cd_see_hand "see_hand" = true)
    (p_see_hand : PySem.W.keepIn K (.ref f_see_hand) = true)
    (a_B_put : PySem.W.findIn K (.ref C) "put" = some (some (.ref f_B_put)))
    (j_B_put : PySem.W.isFn K (.ref f_B_put) = true)
    (l_B_put : K.lookup f_B_put = some ⟨oc_B_put, od_B_put, .func (PySem.W.fnOf "put" "Board.put" (defArgs s_B_put) (defBody s_B_put) (defScope s_B_put) .none kV_B_put dc_B_put pm_B_put an_B_put cd_B_put ct_B_put), sl_B_put⟩)
    (w_B_put : PySem.W.codeIn K cd_B_put "Board.put" = true)
    (p_B_put : PySem.W.keepIn K (.ref f_B_put) = true)
    (a_law_did : PySem.W.nsIn K mainGlobals "_law_did" = some (some (.ref f_law_did)))
    (l_law_did : K.lookup f_law_did = some ⟨oc_law_did, od_law_did, .func (PySem.W.fnOf "_law_did" "_law_did" (defArgs s_law_did) (defBody s_law_did) (defScope s_law_did) .none kV_law_did dc_law_did pm_law_did an_law_did cd_law_did ct_law_did), sl_law_did⟩)
    (w_law_did : PySem.W.codeIn K cd_law_did "_law_did" = true)
    (p_law_did : PySem.W.keepIn K (.ref f_law_did) = true)
    (a_law_whole : PySem.W.nsIn K mainGlobals "_law_whole" = some (some (.ref f_law_whole)))
    (l_law_whole : K.lookup f_law_whole = some ⟨oc_law_whole, od_law_whole, .func (PySem.W.fnOf "_law_whole" "_law_whole" (defArgs s_law_whole) (defBody s_law_whole) (defScope s_law_whole) .none kV_law_whole dc_law_whole pm_law_whole an_law_whole cd_law_whole ct_law_whole), sl_law_whole⟩)
    (w_law_whole : PySem.W.codeIn K cd_law_whole "_law_whole" = true)
    (p_law_whole : PySem.W.keepIn K (.ref f_law_whole) = true)
    (a_B_rows : PySem.W.findIn K (.ref C) "rows" = some (some (.ref f_B_rows)))
    (j_B_rows : PySem.W.isFn K (.ref f_B_rows) = true)
    (l_B_rows : K.lookup f_B_rows = some ⟨oc_B_rows, od_B_rows, .func (PySem.W.fnOf "rows" "Board.rows" (defArgs s_B_rows) (defBody s_B_rows) (defScope s_B_rows) .none kV_B_rows dc_B_rows pm_B_rows an_B_rows cd_B_rows ct_B_rows), sl_B_rows⟩)
    (w_B_rows : PySem.W.codeIn K cd_B_rows "Board.rows" = true)
    (p_B_rows : PySem.W.keepIn K (.ref f_B_rows) = true)
    (a_B_columns : PySem.W.findIn K (.ref C) "columns" = some (some (.ref f_B_columns)))
    (j_B_columns : PySem.W.isFn K (.ref f_B_columns) = true)
    (l_B_columns : K.lookup f_B_columns = some ⟨oc_B_columns, od_B_columns, .func (PySem.W.fnOf "columns" "Board.columns" (defArgs s_B_columns) (defBody s_B_columns) (defScope s_B_columns) .none kV_B_columns dc_B_columns pm_B_columns an_B_columns cd_B_columns ct_B_columns), sl_B_columns⟩)
    (w_B_columns : PySem.W.codeIn K cd_B_columns "Board.columns" = true)
    (p_B_columns : PySem.W.keepIn K (.ref f_B_columns) = true)
    (a_cells_of : PySem.W.nsIn K mainGlobals "cells_of" = some (some (.ref f_cells_of)))
    (l_cells_of : K.lookup f_cells_of = some ⟨oc_cells_of, od_cells_of, .func (PySem.W.fnOf "cells_of" "cells_of" (defArgs s_cells_of) (defBody s_cells_of) (defScope s_cells_of) .none kV_cells_of dc_cells_of pm_cells_of an_cells_of cd_cells_of ct_cells_of), sl_cells_of⟩)
    (w_cells_of : PySem.W.codeIn K cd_cells_of "cells_of" = true)
    (p_cells_of : PySem.W.keepIn K (.ref f_cells_of) = true)
    (a_B_empties : PySem.W.findIn K (.ref C) "empties" = some (some (.ref f_B_empties)))
    (j_B_empties : PySem.W.isFn K (.ref f_B_empties) = true)
    (l_B_empties : K.lookup f_B_empties = some ⟨oc_B_empties, od_B_empties, .func (PySem.W.fnOf "empties" "Board.empties" (defArgs s_B_empties) (defBody s_B_empties) (defScope s_B_empties) .none kV_B_empties dc_B_empties pm_B_empties an_B_empties cd_B_empties ct_B_empties), sl_B_empties⟩)
    (w_B_empties : PySem.W.codeIn K cd_B_empties "Board.empties" = true)
    (p_B_empties : PySem.W.keepIn K (.ref f_B_empties) = true)
    (a_law_is_cells : PySem.W.nsIn K mainGlobals "_law_is_cells" = some (some (.ref f_law_is_cells)))
    (l_law_is_cells : K.lookup f_law_is_cells = some ⟨oc_law_is_cells, od_law_is_cells, .func (PySem.W.fnOf "_law_is_cells" "_law_is_cells" (defArgs s_law_is_cells) (defBody s_law_is_cells) (defScope s_law_is_cells) .none kV_law_is_cells dc_law_is_cells pm_law_is_cells an_law_is_cells cd_law_is_cells ct_law_is_cells), sl_law_is_cells⟩)
    (w_law_is_cells : PySem.W.codeIn K cd_law_is_cells "_law_is_cells" = true)
    (p_law_is_cells : PySem.W.keepIn K (.ref f_law_is_cells) = true)
    (a_law_empties_right : PySem.W.nsIn K mainGlobals "_law_empties_right" = some (some (.ref f_law_empties_right)))
    (l_law_empties_right : K.lookup f_law_empties_right = some ⟨oc_law_empties_right, od_law_empties_right, .func (PySem.W.fnOf "_law_empties_right" "_law_empties_right" (defArgs s_law_empties_right) (defBody s_law_empties_right) (defScope s_law_empties_right) .none kV_law_empties_right dc_law_empties_right pm_law_empties_right an_law_empties_right cd_law_empties_right ct_law_empties_right), sl_law_empties_right⟩)
    (w_law_empties_right : PySem.W.codeIn K cd_law_empties_right "_law_empties_right" = true)
    (p_law_empties_right : PySem.W.keepIn K (.ref f_law_empties_right) = true)
    (a_law : PySem.W.nsIn K mainGlobals "law" = some (some (.ref f_law)))
    (l_law : K.lookup f_law = some ⟨oc_law, od_law, .func (PySem.W.fnOf "law" "law" (defArgs s_law) (defBody s_law) (defScope s_law) .none kV_law dc_law pm_law an_law cd_law ct_law), sl_law⟩)
    (w_law : PySem.W.codeIn K cd_law "law" = true)
    (p_law : PySem.W.keepIn K (.ref f_law) = true) :
    ∃ fd : FuncData, (∀ (s : Shared) (v : Value), BindsTo s fd ⟨[v], []⟩ [("script", v)]) ∧ ∀ base : Heap, K.In base → base.Ns mainGlobals mg → FnOk l.prog w K mg base (L2.CX l.prog w) 5 fa fd ["script"] (sp_law K ad0) := by
  have e := hfa.symm.trans (PySem.W.mg_of X G a_law)
  cases e
  have T : Top K mg (⟨C, eBoardError, eNoBoard, eNoCell, eNoHand, eCellTaken, eCellEmpty, tG, tG, 0⟩ : Ad) := ⟨⟨pg, hd, po, sa⟩, nH, nW, nO, PySem.W.mg_of X G aG, PySem.W.mg_none_of X G z_len, PySem.W.mg_none_of X G z_range, PySem.W.mg_none_of X G z_isinstance, PySem.W.mg_none_of X G z_min, PySem.W.mg_none_of X G z_sorted, PySem.W.mg_none_of X G z_list, PySem.W.mg_none_of X G z_set, PySem.W.mg_none_of X G z_int, PySem.W.mg_none_of X G z_bool, PySem.W.mg_none_of X G z_tuple, PySem.W.mg_none_of X G z_str, PySem.W.mg_none_of X G z_ValueError⟩
  have x_BoardError : XC K mg "BoardError" (⟨C, eBoardError, eNoBoard, eNoCell, eNoHand, eCellTaken, eCellEmpty, tG, tG, 0⟩ : Ad).eBoardError := ⟨PySem.W.mg_of X G g_BoardError, x_BoardError, k_BoardError, b_BoardError, t_BoardError⟩
  have x_NoBoard : XC K mg "NoBoard" (⟨C, eBoardError, eNoBoard, eNoCell, eNoHand, eCellTaken, eCellEmpty, tG, tG, 0⟩ : Ad).eNoBoard := ⟨PySem.W.mg_of X G g_NoBoard, x_NoBoard, k_NoBoard, b_NoBoard, t_NoBoard⟩
  have x_NoCell : XC K mg "NoCell" (⟨C, eBoardError, eNoBoard, eNoCell, eNoHand, eCellTaken, eCellEmpty, tG, tG, 0⟩ : Ad).eNoCell := ⟨PySem.W.mg_of X G g_NoCell, x_NoCell, k_NoCell, b_NoCell, t_NoCell⟩
  have x_NoHand : XC K mg "NoHand" (⟨C, eBoardError, eNoBoard, eNoCell, eNoHand, eCellTaken, eCellEmpty, tG, tG, 0⟩ : Ad).eNoHand := ⟨PySem.W.mg_of X G g_NoHand, x_NoHand, k_NoHand, b_NoHand, t_NoHand⟩
  have x_CellTaken : XC K mg "CellTaken" (⟨C, eBoardError, eNoBoard, eNoCell, eNoHand, eCellTaken, eCellEmpty, tG, tG, 0⟩ : Ad).eCellTaken := ⟨PySem.W.mg_of X G g_CellTaken, x_CellTaken, k_CellTaken, b_CellTaken, t_CellTaken⟩
  have x_CellEmpty : XC K mg "CellEmpty" (⟨C, eBoardError, eNoBoard, eNoCell, eNoHand, eCellTaken, eCellEmpty, tG, tG, 0⟩ : Ad).eCellEmpty := ⟨PySem.W.mg_of X G g_CellEmpty, x_CellEmpty, k_CellEmpty, b_CellEmpty, t_CellEmpty⟩
  have q_NoCell : ExcC K (⟨C, eBoardError, eNoBoard, eNoCell, eNoHand, eCellTaken, eCellEmpty, tG, tG, 0⟩ : Ad).eNoCell := ⟨q_NoCell_hg, q_NoCell_hk, b_NoCell, q_NoCell_hd, q_NoCell_ha, q_hn, q_ht, q_NoCell_hm⟩
  have q_NoHand : ExcC K (⟨C, eBoardError, eNoBoard, eNoCell, eNoHand, eCellTaken, eCellEmpty, tG, tG, 0⟩ : Ad).eNoHand := ⟨q_NoHand_hg, q_NoHand_hk, b_NoHand, q_NoHand_hd, q_NoHand_ha, q_hn, q_ht, q_NoHand_hm⟩
  have q_CellTaken : ExcC K (⟨C, eBoardError, eNoBoard, eNoCell, eNoHand, eCellTaken, eCellEmpty, tG, tG, 0⟩ : Ad).eCellTaken := ⟨q_CellTaken_hg, q_CellTaken_hk, b_CellTaken, q_CellTaken_hd, q_CellTaken_ha, q_hn, q_ht, q_CellTaken_hm⟩
  have q_CellEmpty : ExcC K (⟨C, eBoardError, eNoBoard, eNoCell, eNoHand, eCellTaken, eCellEmpty, tG, tG, 0⟩ : Ad).eCellEmpty := ⟨q_CellEmpty_hg, q_CellEmpty_hk, b_CellEmpty, q_CellEmpty_hd, q_CellEmpty_ha, q_hn, q_ht, q_CellEmpty_hm⟩
  have m_NoBoard_NoBoard := exm_yes b_NoBoard o_NoBoard t_NoBoard u_NoBoard_NoBoard
  have m_NoCell_BoardError := exm_yes b_BoardError o_BoardError t_BoardError u_NoCell_BoardError
  have i_NoCell_NoCell : PySem.W.kitOne K (.ref eNoCell) (.ref eNoCell) = some true := kit_yes
  have i_NoCell_NoHand : PySem.W.kitOne K (.ref eNoCell) (.ref eNoHand) = some false := kit_no o_NoHand t_NoHand u_NoCell_NoHand u_NoCell_NoCell
  have i_NoCell_CellTaken : PySem.W.kitOne K (.ref eNoCell) (.ref eCellTaken) = some false := kit_no o_CellTaken t_CellTaken u_NoCell_CellTaken u_NoCell_NoCell
  have i_NoCell_CellEmpty : PySem.W.kitOne K (.ref eNoCell) (.ref eCellEmpty) = some false := kit_no o_CellEmpty t_CellEmpty u_NoCell_CellEmpty u_NoCell_NoCell
  have i_NoCell_NoBoard : PySem.W.kitOne K (.ref eNoCell) (.ref eNoBoard) = some false := kit_no o_NoBoard t_NoBoard u_NoCell_NoBoard u_NoCell_NoCell
  have i_NoCell_ValueError : PySem.W.kitOne K (.ref eNoCell) (.type "ValueError") = some true := kit_ve u_NoCell_ValueError
  have m_NoHand_BoardError := exm_yes b_BoardError o_BoardError t_BoardError u_NoHand_BoardError
  have i_NoHand_NoCell : PySem.W.kitOne K (.ref eNoHand) (.ref eNoCell) = some false := kit_no o_NoCell t_NoCell u_NoHand_NoCell u_NoHand_NoHand
  have i_NoHand_NoHand : PySem.W.kitOne K (.ref eNoHand) (.ref eNoHand) = some true := kit_yes
  have i_NoHand_CellTaken : PySem.W.kitOne K (.ref eNoHand) (.ref eCellTaken) = some false := kit_no o_CellTaken t_CellTaken u_NoHand_CellTaken u_NoHand_NoHand
  have i_NoHand_CellEmpty : PySem.W.kitOne K (.ref eNoHand) (.ref eCellEmpty) = some false := kit_no o_CellEmpty t_CellEmpty u_NoHand_CellEmpty u_NoHand_NoHand
  have i_NoHand_NoBoard : PySem.W.kitOne K (.ref eNoHand) (.ref eNoBoard) = some false := kit_no o_NoBoard t_NoBoard u_NoHand_NoBoard u_NoHand_NoHand
  have i_NoHand_ValueError : PySem.W.kitOne K (.ref eNoHand) (.type "ValueError") = some true := kit_ve u_NoHand_ValueError
  have m_CellTaken_BoardError := exm_yes b_BoardError o_BoardError t_BoardError u_CellTaken_BoardError
  have i_CellTaken_NoCell : PySem.W.kitOne K (.ref eCellTaken) (.ref eNoCell) = some false := kit_no o_NoCell t_NoCell u_CellTaken_NoCell u_CellTaken_CellTaken
  have i_CellTaken_NoHand : PySem.W.kitOne K (.ref eCellTaken) (.ref eNoHand) = some false := kit_no o_NoHand t_NoHand u_CellTaken_NoHand u_CellTaken_CellTaken
  have i_CellTaken_CellTaken : PySem.W.kitOne K (.ref eCellTaken) (.ref eCellTaken) = some true := kit_yes
  have i_CellTaken_CellEmpty : PySem.W.kitOne K (.ref eCellTaken) (.ref eCellEmpty) = some false := kit_no o_CellEmpty t_CellEmpty u_CellTaken_CellEmpty u_CellTaken_CellTaken
  have i_CellTaken_NoBoard : PySem.W.kitOne K (.ref eCellTaken) (.ref eNoBoard) = some false := kit_no o_NoBoard t_NoBoard u_CellTaken_NoBoard u_CellTaken_CellTaken
  have i_CellTaken_ValueError : PySem.W.kitOne K (.ref eCellTaken) (.type "ValueError") = some true := kit_ve u_CellTaken_ValueError
  have m_CellEmpty_BoardError := exm_yes b_BoardError o_BoardError t_BoardError u_CellEmpty_BoardError
  have i_CellEmpty_NoCell : PySem.W.kitOne K (.ref eCellEmpty) (.ref eNoCell) = some false := kit_no o_NoCell t_NoCell u_CellEmpty_NoCell u_CellEmpty_CellEmpty
  have i_CellEmpty_NoHand : PySem.W.kitOne K (.ref eCellEmpty) (.ref eNoHand) = some false := kit_no o_NoHand t_NoHand u_CellEmpty_NoHand u_CellEmpty_CellEmpty
  have i_CellEmpty_CellTaken : PySem.W.kitOne K (.ref eCellEmpty) (.ref eCellTaken) = some false := kit_no o_CellTaken t_CellTaken u_CellEmpty_CellTaken u_CellEmpty_CellEmpty
  have i_CellEmpty_CellEmpty : PySem.W.kitOne K (.ref eCellEmpty) (.ref eCellEmpty) = some true := kit_yes
  have i_CellEmpty_NoBoard : PySem.W.kitOne K (.ref eCellEmpty) (.ref eNoBoard) = some false := kit_no o_NoBoard t_NoBoard u_CellEmpty_NoBoard u_CellEmpty_CellEmpty
  have i_CellEmpty_ValueError : PySem.W.kitOne K (.ref eCellEmpty) (.type "ValueError") = some true := kit_ve u_CellEmpty_ValueError
  have F_law_cell_at := fun_mk (st := s_law_cell_at) l_law_cell_at w_law_cell_at p_law_cell_at
  have F_B_init := fun_mk (st := s_B_init) l_B_init w_B_init p_B_init
  have F_law_no_board := fun_mk (st := s_law_no_board) l_law_no_board w_law_no_board p_law_no_board
  have F_law_mark := fun_mk (st := s_law_mark) l_law_mark w_law_mark p_law_mark
  have F_law_due := fun_mk (st := s_law_due) l_law_due w_law_due p_law_due
  have F_B_has := fun_mk (st := s_B_has) l_B_has w_B_has p_B_has
  have F_B_see_cell := fun_mk (st := s_B_see_cell) l_B_see_cell w_B_see_cell p_B_see_cell
  have F_B_lift := fun_mk (st := s_B_lift) l_B_lift w_B_lift p_B_lift
  have F_B_owner := fun_mk (st := s_B_owner) l_B_owner w_B_owner p_B_owner
  have F_see_hand := fun_mk (st := s_see_hand) l_see_hand w_see_hand p_see_hand
  have F_B_put := fun_mk (st := s_B_put) l_B_put w_B_put p_B_put
  have F_law_did := fun_mk (st := s_law_did) l_law_did w_law_did p_law_did
  have F_law_whole := fun_mk (st := s_law_whole) l_law_whole w_law_whole p_law_whole
  have F_B_rows := fun_mk (st := s_B_rows) l_B_rows w_B_rows p_B_rows
  have F_B_columns := fun_mk (st := s_B_columns) l_B_columns w_B_columns p_B_columns
  have F_cells_of := fun_mk (st := s_cells_of) l_cells_of w_cells_of p_cells_of
  have F_B_empties := fun_mk (st := s_B_empties) l_B_empties w_B_empties p_B_empties
  have F_law_is_cells := fun_mk (st := s_law_is_cells) l_law_is_cells w_law_is_cells p_law_is_cells
  have F_law_empties_right := fun_mk (st := s_law_empties_right) l_law_empties_right w_law_empties_right p_law_empties_right
  have F_law := fun_mk (st := s_law) l_law w_law p_law
  refine ⟨PySem.W.fnOf "law" "law" (defArgs s_law) (defBody s_law) (defScope s_law) .none kV_law dc_law pm_law an_law cd_law ct_law, fun s v => .of_eq rfl, fun base _ _ => ?_⟩
  have c_law_cell_at : Cl l.prog w K mg base 1 "_law_cell_at" (sp_law_cell_at K (⟨C, eBoardError, eNoBoard, eNoCell, eNoHand, eCellTaken, eCellEmpty, tG, tG, 0⟩ : Ad)) := ⟨_, _, _, PySem.W.mg_of X G a_law_cell_at, F_law_cell_at.kp, bd_law_cell_at F_law_cell_at, ok_law_cell_at (P := l.prog) (w := w) (base := base) (D := (⟨C, eBoardError, eNoBoard, eNoCell, eNoHand, eCellTaken, eCellEmpty, tG, tG, 0⟩ : Ad)) F_law_cell_at T⟩
  have c_B_init : Mkr l.prog w K mg base 1 "Board" (⟨C, eBoardError, eNoBoard, eNoCell, eNoHand, eCellTaken, eCellEmpty, tG, tG, 0⟩ : Ad).C (sp_B_init K (⟨C, eBoardError, eNoBoard, eNoCell, eNoHand, eCellTaken, eCellEmpty, tG, tG, 0⟩ : Ad)) := ⟨_, _, _, PySem.W.mg_of X G aC, ⟨mk, a_B_init, j_B_init, kc⟩, bd_B_init F_B_init, ok_B_init (P := l.prog) (w := w) (base := base) (D := (⟨C, eBoardError, eNoBoard, eNoCell, eNoHand, eCellTaken, eCellEmpty, tG, tG, 0⟩ : Ad)) F_B_init T x_NoBoard⟩
  have c_law_no_board : Cl l.prog w K mg base 3 "_law_no_board" (sp_law_no_board K (⟨C, eBoardError, eNoBoard, eNoCell, eNoHand, eCellTaken, eCellEmpty, tG, tG, 0⟩ : Ad)) := ⟨_, _, _, PySem.W.mg_of X G a_law_no_board, F_law_no_board.kp, bd_law_no_board F_law_no_board, ok_law_no_board (P := l.prog) (w := w) (base := base) (D := (⟨C, eBoardError, eNoBoard, eNoCell, eNoHand, eCellTaken, eCellEmpty, tG, tG, 0⟩ : Ad)) F_law_no_board T x_NoBoard m_NoBoard_NoBoard c_B_init⟩
  have c_law_mark : Cl l.prog w K mg base 1 "_law_mark" (sp_law_mark K (⟨C, eBoardError, eNoBoard, eNoCell, eNoHand, eCellTaken, eCellEmpty, tG, tG, 0⟩ : Ad)) := ⟨_, _, _, PySem.W.mg_of X G a_law_mark, F_law_mark.kp, bd_law_mark F_law_mark, ok_law_mark (P := l.prog) (w := w) (base := base) (D := (⟨C, eBoardError, eNoBoard, eNoCell, eNoHand, eCellTaken, eCellEmpty, tG, tG, 0⟩ : Ad)) F_law_mark T⟩
  have c_law_due : Cl l.prog w K mg base 2 "_law_due" (sp_law_due K (⟨C, eBoardError, eNoBoard, eNoCell, eNoHand, eCellTaken, eCellEmpty, tG, tG, 0⟩ : Ad)) := ⟨_, _, _, PySem.W.mg_of X G a_law_due, F_law_due.kp, bd_law_due F_law_due, ok_law_due (P := l.prog) (w := w) (base := base) (D := (⟨C, eBoardError, eNoBoard, eNoCell, eNoHand, eCellTaken, eCellEmpty, tG, tG, 0⟩ : Ad)) F_law_due T c_law_mark⟩
  have c_B_has : Mt l.prog w K mg base 1 (⟨C, eBoardError, eNoBoard, eNoCell, eNoHand, eCellTaken, eCellEmpty, tG, tG, 0⟩ : Ad).C "has" (sp_B_has K (⟨C, eBoardError, eNoBoard, eNoCell, eNoHand, eCellTaken, eCellEmpty, tG, tG, 0⟩ : Ad)) := ⟨_, _, _, ⟨a_B_has, j_B_has, p_B_has⟩, bd_B_has F_B_has, ok_B_has (P := l.prog) (w := w) (base := base) (D := (⟨C, eBoardError, eNoBoard, eNoCell, eNoHand, eCellTaken, eCellEmpty, tG, tG, 0⟩ : Ad)) F_B_has T⟩
  have c_B_see_cell : Mt l.prog w K mg base 2 (⟨C, eBoardError, eNoBoard, eNoCell, eNoHand, eCellTaken, eCellEmpty, tG, tG, 0⟩ : Ad).C "see_cell" (sp_B_see_cell K (⟨C, eBoardError, eNoBoard, eNoCell, eNoHand, eCellTaken, eCellEmpty, tG, tG, 0⟩ : Ad)) := ⟨_, _, _, ⟨a_B_see_cell, j_B_see_cell, p_B_see_cell⟩, bd_B_see_cell F_B_see_cell, ok_B_see_cell (P := l.prog) (w := w) (base := base) (D := (⟨C, eBoardError, eNoBoard, eNoCell, eNoHand, eCellTaken, eCellEmpty, tG, tG, 0⟩ : Ad)) F_B_see_cell T x_NoCell c_B_has⟩
  have c_B_lift : Mt l.prog w K mg base 3 (⟨C, eBoardError, eNoBoard, eNoCell, eNoHand, eCellTaken, eCellEmpty, tG, tG, 0⟩ : Ad).C "lift" (sp_B_lift K (⟨C, eBoardError, eNoBoard, eNoCell, eNoHand, eCellTaken, eCellEmpty, tG, tG, 0⟩ : Ad)) := ⟨_, _, _, ⟨a_B_lift, j_B_lift, p_B_lift⟩, bd_B_lift F_B_lift, ok_B_lift (P := l.prog) (w := w) (base := base) (D := (⟨C, eBoardError, eNoBoard, eNoCell, eNoHand, eCellTaken, eCellEmpty, tG, tG, 0⟩ : Ad)) F_B_lift T x_CellEmpty c_B_see_cell⟩
  have c_B_owner : Mt l.prog w K mg base 3 (⟨C, eBoardError, eNoBoard, eNoCell, eNoHand, eCellTaken, eCellEmpty, tG, tG, 0⟩ : Ad).C "owner" (sp_B_owner K (⟨C, eBoardError, eNoBoard, eNoCell, eNoHand, eCellTaken, eCellEmpty, tG, tG, 0⟩ : Ad)) := ⟨_, _, _, ⟨a_B_owner, j_B_owner, p_B_owner⟩, bd_B_owner F_B_owner, ok_B_owner (P := l.prog) (w := w) (base := base) (D := (⟨C, eBoardError, eNoBoard, eNoCell, eNoHand, eCellTaken, eCellEmpty, tG, tG, 0⟩ : Ad)) F_B_owner T c_B_see_cell⟩
  have c_see_hand : Cl l.prog w K mg base 1 "see_hand" (sp_see_hand K (⟨C, eBoardError, eNoBoard, eNoCell, eNoHand, eCellTaken, eCellEmpty, tG, tG, 0⟩ : Ad)) := ⟨_, _, _, PySem.W.mg_of X G a_see_hand, F_see_hand.kp, bd_see_hand F_see_hand, ok_see_hand (P := l.prog) (w := w) (base := base) (D := (⟨C, eBoardError, eNoBoard, eNoCell, eNoHand, eCellTaken, eCellEmpty, tG, tG, 0⟩ : Ad)) F_see_hand T x_NoHand⟩
  have c_B_put : Mt l.prog w K mg base 3 (⟨C, eBoardError, eNoBoard, eNoCell, eNoHand, eCellTaken, eCellEmpty, tG, tG, 0⟩ : Ad).C "put" (sp_B_put K (⟨C, eBoardError, eNoBoard, eNoCell, eNoHand, eCellTaken, eCellEmpty, tG, tG, 0⟩ : Ad)) := ⟨_, _, _, ⟨a_B_put, j_B_put, p_B_put⟩, bd_B_put F_B_put, ok_B_put (P := l.prog) (w := w) (base := base) (D := (⟨C, eBoardError, eNoBoard, eNoCell, eNoHand, eCellTaken, eCellEmpty, tG, tG, 0⟩ : Ad)) F_B_put T x_CellTaken c_B_see_cell c_see_hand⟩
  have c_law_did : Cl l.prog w K mg base 4 "_law_did" (sp_law_did K (⟨C, eBoardError, eNoBoard, eNoCell, eNoHand, eCellTaken, eCellEmpty, tG, tG, 0⟩ : Ad)) := ⟨_, _, _, PySem.W.mg_of X G a_law_did, F_law_did.kp, bd_law_did F_law_did, ok_law_did (P := l.prog) (w := w) (base := base) (D := (⟨C, eBoardError, eNoBoard, eNoCell, eNoHand, eCellTaken, eCellEmpty, tG, tG, 0⟩ : Ad)) F_law_did T x_BoardError x_NoCell x_NoHand x_CellTaken x_CellEmpty x_NoBoard m_NoCell_BoardError q_NoCell i_NoCell_NoCell i_NoCell_NoHand i_NoCell_CellTaken i_NoCell_CellEmpty i_NoCell_NoBoard i_NoCell_ValueError m_NoHand_BoardError q_NoHand i_NoHand_NoCell i_NoHand_NoHand i_NoHand_CellTaken i_NoHand_CellEmpty i_NoHand_NoBoard i_NoHand_ValueError m_CellTaken_BoardError q_CellTaken i_CellTaken_NoCell i_CellTaken_NoHand i_CellTaken_CellTaken i_CellTaken_CellEmpty i_CellTaken_NoBoard i_CellTaken_ValueError m_CellEmpty_BoardError q_CellEmpty i_CellEmpty_NoCell i_CellEmpty_NoHand i_CellEmpty_CellTaken i_CellEmpty_CellEmpty i_CellEmpty_NoBoard i_CellEmpty_ValueError c_B_lift c_B_owner c_B_put⟩
  have c_law_whole : Cl l.prog w K mg base 1 "_law_whole" (sp_law_whole K (⟨C, eBoardError, eNoBoard, eNoCell, eNoHand, eCellTaken, eCellEmpty, tG, tG, 0⟩ : Ad)) := ⟨_, _, _, PySem.W.mg_of X G a_law_whole, F_law_whole.kp, bd_law_whole F_law_whole, ok_law_whole (P := l.prog) (w := w) (base := base) (D := (⟨C, eBoardError, eNoBoard, eNoCell, eNoHand, eCellTaken, eCellEmpty, tG, tG, 0⟩ : Ad)) F_law_whole T⟩
  have c_B_rows : Mt l.prog w K mg base 1 (⟨C, eBoardError, eNoBoard, eNoCell, eNoHand, eCellTaken, eCellEmpty, tG, tG, 0⟩ : Ad).C "rows" (sp_B_rows K (⟨C, eBoardError, eNoBoard, eNoCell, eNoHand, eCellTaken, eCellEmpty, tG, tG, 0⟩ : Ad)) := ⟨_, _, _, ⟨a_B_rows, j_B_rows, p_B_rows⟩, bd_B_rows F_B_rows, ok_B_rows (P := l.prog) (w := w) (base := base) (D := (⟨C, eBoardError, eNoBoard, eNoCell, eNoHand, eCellTaken, eCellEmpty, tG, tG, 0⟩ : Ad)) F_B_rows T⟩
  have c_B_columns : Mt l.prog w K mg base 1 (⟨C, eBoardError, eNoBoard, eNoCell, eNoHand, eCellTaken, eCellEmpty, tG, tG, 0⟩ : Ad).C "columns" (sp_B_columns K (⟨C, eBoardError, eNoBoard, eNoCell, eNoHand, eCellTaken, eCellEmpty, tG, tG, 0⟩ : Ad)) := ⟨_, _, _, ⟨a_B_columns, j_B_columns, p_B_columns⟩, bd_B_columns F_B_columns, ok_B_columns (P := l.prog) (w := w) (base := base) (D := (⟨C, eBoardError, eNoBoard, eNoCell, eNoHand, eCellTaken, eCellEmpty, tG, tG, 0⟩ : Ad)) F_B_columns T⟩
  have c_cells_of : Cl l.prog w K mg base 2 "cells_of" (sp_cells_of K (⟨C, eBoardError, eNoBoard, eNoCell, eNoHand, eCellTaken, eCellEmpty, tG, tG, 0⟩ : Ad)) := ⟨_, _, _, PySem.W.mg_of X G a_cells_of, F_cells_of.kp, bd_cells_of F_cells_of, ok_cells_of (P := l.prog) (w := w) (base := base) (D := (⟨C, eBoardError, eNoBoard, eNoCell, eNoHand, eCellTaken, eCellEmpty, tG, tG, 0⟩ : Ad)) F_cells_of T c_B_rows c_B_columns⟩
  have c_B_empties : Mt l.prog w K mg base 3 (⟨C, eBoardError, eNoBoard, eNoCell, eNoHand, eCellTaken, eCellEmpty, tG, tG, 0⟩ : Ad).C "empties" (sp_B_empties K (⟨C, eBoardError, eNoBoard, eNoCell, eNoHand, eCellTaken, eCellEmpty, tG, tG, 0⟩ : Ad)) := ⟨_, _, _, ⟨a_B_empties, j_B_empties, p_B_empties⟩, bd_B_empties F_B_empties, ok_B_empties (P := l.prog) (w := w) (base := base) (D := (⟨C, eBoardError, eNoBoard, eNoCell, eNoHand, eCellTaken, eCellEmpty, tG, tG, 0⟩ : Ad)) F_B_empties T c_cells_of⟩
  have c_law_is_cells : Cl l.prog w K mg base 2 "_law_is_cells" (sp_law_is_cells K (⟨C, eBoardError, eNoBoard, eNoCell, eNoHand, eCellTaken, eCellEmpty, tG, tG, 0⟩ : Ad)) := ⟨_, _, _, PySem.W.mg_of X G a_law_is_cells, F_law_is_cells.kp, bd_law_is_cells F_law_is_cells, ok_law_is_cells (P := l.prog) (w := w) (base := base) (D := (⟨C, eBoardError, eNoBoard, eNoCell, eNoHand, eCellTaken, eCellEmpty, tG, tG, 0⟩ : Ad)) F_law_is_cells T c_law_whole⟩
  have c_law_empties_right : Cl l.prog w K mg base 4 "_law_empties_right" (sp_law_empties_right K (⟨C, eBoardError, eNoBoard, eNoCell, eNoHand, eCellTaken, eCellEmpty, tG, tG, 0⟩ : Ad)) := ⟨_, _, _, PySem.W.mg_of X G a_law_empties_right, F_law_empties_right.kp, bd_law_empties_right F_law_empties_right, ok_law_empties_right (P := l.prog) (w := w) (base := base) (D := (⟨C, eBoardError, eNoBoard, eNoCell, eNoHand, eCellTaken, eCellEmpty, tG, tG, 0⟩ : Ad)) F_law_empties_right T c_B_empties c_law_is_cells⟩
  exact ok_law (P := l.prog) (w := w) (base := base) (D := (⟨C, eBoardError, eNoBoard, eNoCell, eNoHand, eCellTaken, eCellEmpty, tG, tG, 0⟩ : Ad)) F_law T c_law_cell_at c_law_no_board c_B_init c_law_due c_law_did c_law_whole c_law_empties_right c_B_rows c_B_columns
theorem walk {l : PySem.W.OpenLaw} {q : Program} {loose : List Str} {XP : (Str → Option Value) → Heap → Prop} {YP : World → Heap → Prop} {d : DefRec} {K : Params → PySem.W.Frag} (hn : l.most = some 63) (hdf : d.params.defaults = [])
    (hY : ∀ (w : World) (h : Heap), YP w h → (K w.params).In h)
    (F : ∀ (w : World) (mg : Str → Option Value) (fa : Addr) (h : Heap), (K w.params).In h → h.Ns mainGlobals mg → mg d.name = some (.ref fa) →
      ∃ fd : FuncData, (∀ (s : Shared) (u : Value), BindsTo s fd ⟨[u], []⟩ [("script", u)]) ∧ ∀ base : Heap, (K w.params).In base → base.Ns mainGlobals mg → FnOk l.prog w (K w.params) mg base (L2.CX l.prog w) 5 fa fd ["script"] (sp_law (K w.params) ad0)) :
    PySem.W.WalkO q loose XP YP l.row.toRowW d [] (fun f vs => PySem.call f vs) :=
  L2.walk_of (n := 63) (k := 5) (x := "script") (CX := fun w => L2.CX l.prog w) (sp := fun w => sp_law (K w.params) ad0) hn (by decide) hdf ⟨rfl, by decide, by decide⟩ hY F (fun _ _ a ns hl _ hS => ⟨a, ns, rfl, hS, hl, fun _ => rfl⟩) fun _ _ _ _ _ z => by
    obtain ⟨_, _, _, _, _, _, _, _, _, _, _, _, z⟩ := z
    exact z
end SC
open PySem PySem.W PyProof.Rows
set_option maxRecDepth 100000 in
set_option maxHeartbeats 0 in
theorem PySem.Challenge.cw_sidechain_k01_cells_put_and_lifted_holds : PySem.Challenge.rw_sidechain_k01_cells_put_and_lifted.Holds := by
  w_on; o_law; k_head; (case hw => w_witness2)
  k_fill
  refine SC.walk (l := PySem.Challenge.rw_sidechain_k01_cells_put_and_lifted) rfl rfl (fun w h Y => PySem.W.kIn_of Y) ?F
  case F =>
    intro w mg fa h KX G hmg
    refine' SC.all_mk KX G hmg ?aC ?g_BoardError ?x_BoardError ?k_BoardError ?b_BoardError ?t_BoardError ?g_NoBoard ?x_NoBoard ?k_NoBoard ?b_NoBoard ?t_NoBoard ?g_NoCell ?x_NoCell ?k_NoCell ?b_NoCell ?t_NoCell ?g_NoHand ?x_NoHand ?k_NoHand ?b_NoHand ?t_NoHand ?g_CellTaken ?x_CellTaken ?k_CellTaken ?b_CellTaken ?t_CellTaken ?g_CellEmpty ?x_CellEmpty ?k_CellEmpty ?b_CellEmpty ?t_CellEmpty ?u_NoBoard_NoBoard ?o_NoBoard ?u_NoCell_BoardError ?o_BoardError ?q_NoCell_hg ?q_NoCell_hk ?q_NoCell_hd ?q_NoCell_ha ?q_NoCell_hm ?q_hn ?q_ht ?u_NoCell_NoCell ?o_NoCell ?u_NoCell_NoHand ?o_NoHand ?u_NoCell_CellTaken ?o_CellTaken ?u_NoCell_CellEmpty ?o_CellEmpty ?u_NoCell_NoBoard ?u_NoCell_ValueError ?u_NoHand_BoardError ?q_NoHand_hg ?q_NoHand_hk ?q_NoHand_hd ?q_NoHand_ha ?q_NoHand_hm ?u_NoHand_NoCell ?u_NoHand_NoHand ?u_NoHand_CellTaken ?u_NoHand_CellEmpty ?u_NoHand_NoBoard ?u_NoHand_ValueError ?u_CellTaken_BoardError ?q_CellTaken_hg ?q_CellTaken_hk ?q_CellTaken_hd ?q_CellTaken_ha ?q_CellTaken_hm ?u_CellTaken_NoCell ?u_CellTaken_CellTaken ?u_CellTaken_NoHand ?u_CellTaken_CellEmpty ?u_CellTaken_NoBoard ?u_CellTaken_ValueError ?u_CellEmpty_BoardError ?q_CellEmpty_hg ?q_CellEmpty_hk ?q_CellEmpty_hd ?q_CellEmpty_ha ?q_CellEmpty_hm ?u_CellEmpty_NoCell ?u_CellEmpty_CellEmpty ?u_CellEmpty_NoHand ?u_CellEmpty_CellTaken ?u_CellEmpty_NoBoard ?u_CellEmpty_ValueError ?pg ?hd ?po ?sa ?mk ?kc ?nH ?nW ?nO ?aG ?z_len ?z_range ?z_isinstance ?z_min ?z_sorted ?z_list ?z_set ?z_int ?z_bool ?z_tuple ?z_str ?z_ValueError ?a_law_cell_at ?l_law_cell_at ?w_law_cell_at ?p_law_cell_at ?a_B_init ?j_B_init ?l_B_init ?w_B_init ?p_B_init ?a_law_no_board ?l_law_no_board ?w_law_no_board ?p_law_no_board ?a_law_mark ?l_law_mark ?w_law_mark ?p_law_mark ?a_law_due ?l_law_due ?w_law_due ?p_law_due ?a_B_has ?j_B_has ?l_B_has ?w_B_has ?p_B_has ?a_B_see_cell ?j_B_see_cell ?l_B_see_cell ?w_B_see_cell ?p_B_see_cell ?a_B_lift ?j_B_lift ?l_B_lift ?w_B_lift ?p_B_lift ?a_B_owner ?j_B_owner ?l_B_owner ?w_B_owner ?p_B_owner ?a_see_hand ?l_see_hand ?w_see_hand ?p_see_hand ?a_B_put ?j_B_put ?l_B_put ?w_B_put ?p_B_put ?a_law_did ?l_law_did ?w_law_did ?p_law_did ?a_law_whole ?l_law_whole ?w_law_whole ?p_law_whole ?a_B_rows ?j_B_rows ?l_B_rows ?w_B_rows ?p_B_rows ?a_B_columns ?j_B_columns ?l_B_columns ?w_B_columns ?p_B_columns ?a_cells_of ?l_cells_of ?w_cells_of ?p_cells_of ?a_B_empties ?j_B_empties ?l_B_empties ?w_B_empties ?p_B_empties ?a_law_is_cells ?l_law_is_cells ?w_law_is_cells ?p_law_is_cells ?a_law_empties_right ?l_law_empties_right ?w_law_empties_right ?p_law_empties_right ?a_law ?l_law ?w_law ?p_law
    (case aC => k_is)
    (case g_BoardError => k_is)
    (case x_BoardError => k_exc)
    (case k_BoardError => k_is)
    (case b_BoardError => k_is)
    (case t_BoardError => k_is)
    (case g_NoBoard => k_is)
    (case x_NoBoard => k_exc)
    (case k_NoBoard => k_is)
    (case b_NoBoard => k_is)
    (case t_NoBoard => k_is)
    (case g_NoCell => k_is)
    (case x_NoCell => k_exc)
    (case k_NoCell => k_is)
    (case b_NoCell => k_is)
    (case t_NoCell => k_is)
    (case g_NoHand => k_is)
    (case x_NoHand => k_exc)
    (case k_NoHand => k_is)
    (case b_NoHand => k_is)
    (case t_NoHand => k_is)
    (case g_CellTaken => k_is)
    (case x_CellTaken => k_exc)
    (case k_CellTaken => k_is)
    (case b_CellTaken => k_is)
    (case t_CellTaken => k_is)
    (case g_CellEmpty => k_is)
    (case x_CellEmpty => k_exc)
    (case k_CellEmpty => k_is)
    (case b_CellEmpty => k_is)
    (case t_CellEmpty => k_is)
    (case u_NoBoard_NoBoard => k_is)
    (case o_NoBoard => k_is)
    (case u_NoCell_BoardError => k_is)
    (case o_BoardError => k_is)
    (case q_NoCell_hg => k_is)
    (case q_NoCell_hk => k_is)
    (case q_NoCell_hd => k_is)
    (case q_NoCell_ha => k_is)
    (case q_NoCell_hm => k_is)
    (case q_hn => k_is)
    (case q_ht => k_is)
    (case u_NoCell_NoCell => k_is)
    (case o_NoCell => k_is)
    (case u_NoCell_NoHand => k_is)
    (case o_NoHand => k_is)
    (case u_NoCell_CellTaken => k_is)
    (case o_CellTaken => k_is)
    (case u_NoCell_CellEmpty => k_is)
    (case o_CellEmpty => k_is)
    (case u_NoCell_NoBoard => k_is)
    (case u_NoCell_ValueError => k_is)
    (case u_NoHand_BoardError => k_is)
    (case q_NoHand_hg => k_is)
    (case q_NoHand_hk => k_is)
    (case q_NoHand_hd => k_is)
    (case q_NoHand_ha => k_is)
    (case q_NoHand_hm => k_is)
    (case u_NoHand_NoCell => k_is)
    (case u_NoHand_NoHand => k_is)
    (case u_NoHand_CellTaken => k_is)
    (case u_NoHand_CellEmpty => k_is)
    (case u_NoHand_NoBoard => k_is)
    (case u_NoHand_ValueError => k_is)
    (case u_CellTaken_BoardError => k_is)
    (case q_CellTaken_hg => k_is)
    (case q_CellTaken_hk => k_is)
    (case q_CellTaken_hd => k_is)
    (case q_CellTaken_ha => k_is)
    (case q_CellTaken_hm => k_is)
    (case u_CellTaken_NoCell => k_is)
    (case u_CellTaken_CellTaken => k_is)
    (case u_CellTaken_NoHand => k_is)
    (case u_CellTaken_CellEmpty => k_is)
    (case u_CellTaken_NoBoard => k_is)
    (case u_CellTaken_ValueError => k_is)
    (case u_CellEmpty_BoardError => k_is)
    (case q_CellEmpty_hg => k_is)
    (case q_CellEmpty_hk => k_is)
    (case q_CellEmpty_hd => k_is)
    (case q_CellEmpty_ha => k_is)
    (case q_CellEmpty_hm => k_is)
    (case u_CellEmpty_NoCell => k_is)
    (case u_CellEmpty_CellEmpty => k_is)
    (case u_CellEmpty_NoHand => k_is)
    (case u_CellEmpty_CellTaken => k_is)
    (case u_CellEmpty_NoBoard => k_is)
    (case u_CellEmpty_ValueError => k_is)
    (case pg => k_is)
    (case hd => k_is)
    (case po => k_is)
    (case sa => k_is)
    (case mk => k_is)
    (case kc => k_is)
    (case nH => k_is)
    (case nW => k_is)
    (case nO => k_is)
    (case aG => k_is)
    (case z_len => k_is)
    (case z_range => k_is)
    (case z_isinstance => k_is)
    (case z_min => k_is)
    (case z_sorted => k_is)
    (case z_list => k_is)
    (case z_set => k_is)
    (case z_int => k_is)
    (case z_bool => k_is)
    (case z_tuple => k_is)
    (case z_str => k_is)
    (case z_ValueError => k_is)
    (case a_law_cell_at => k_is)
    (case l_law_cell_at => k_is)
    (case w_law_cell_at => k_is)
    (case p_law_cell_at => k_is)
    (case a_B_init => k_is)
    (case j_B_init => k_is)
    (case l_B_init => k_is)
    (case w_B_init => k_is)
    (case p_B_init => k_is)
    (case a_law_no_board => k_is)
    (case l_law_no_board => k_is)
    (case w_law_no_board => k_is)
    (case p_law_no_board => k_is)
    (case a_law_mark => k_is)
    (case l_law_mark => k_is)
    (case w_law_mark => k_is)
    (case p_law_mark => k_is)
    (case a_law_due => k_is)
    (case l_law_due => k_is)
    (case w_law_due => k_is)
    (case p_law_due => k_is)
    (case a_B_has => k_is)
    (case j_B_has => k_is)
    (case l_B_has => k_is)
    (case w_B_has => k_is)
    (case p_B_has => k_is)
    (case a_B_see_cell => k_is)
    (case j_B_see_cell => k_is)
    (case l_B_see_cell => k_is)
    (case w_B_see_cell => k_is)
    (case p_B_see_cell => k_is)
    (case a_B_lift => k_is)
    (case j_B_lift => k_is)
    (case l_B_lift => k_is)
    (case w_B_lift => k_is)
    (case p_B_lift => k_is)
    (case a_B_owner => k_is)
    (case j_B_owner => k_is)
    (case l_B_owner => k_is)
    (case w_B_owner => k_is)
    (case p_B_owner => k_is)
    (case a_see_hand => k_is)
    (case l_see_hand => k_is)
    (case w_see_hand => k_is)
    (case p_see_hand => k_is)
    (case a_B_put => k_is)
    (case j_B_put => k_is)
    (case l_B_put => k_is)
    (case w_B_put => k_is)
    (case p_B_put => k_is)
    (case a_law_did => k_is)
    (case l_law_did => k_is)
    (case w_law_did => k_is)
    (case p_law_did => k_is)
    (case a_law_whole => k_is)
    (case l_law_whole => k_is)
    (case w_law_whole => k_is)
    (case p_law_whole => k_is)
    (case a_B_rows => k_is)
    (case j_B_rows => k_is)
    (case l_B_rows => k_is)
    (case w_B_rows => k_is)
    (case p_B_rows => k_is)
    (case a_B_columns => k_is)
    (case j_B_columns => k_is)
    (case l_B_columns => k_is)
    (case w_B_columns => k_is)
    (case p_B_columns => k_is)
    (case a_cells_of => k_is)
    (case l_cells_of => k_is)
    (case w_cells_of => k_is)
    (case p_cells_of => k_is)
    (case a_B_empties => k_is)
    (case j_B_empties => k_is)
    (case l_B_empties => k_is)
    (case w_B_empties => k_is)
    (case p_B_empties => k_is)
    (case a_law_is_cells => k_is)
    (case l_law_is_cells => k_is)
    (case w_law_is_cells => k_is)
    (case p_law_is_cells => k_is)
    (case a_law_empties_right => k_is)
    (case l_law_empties_right => k_is)
    (case w_law_empties_right => k_is)
    (case p_law_empties_right => k_is)
    (case a_law => k_is)
    (case l_law => k_is)
    (case w_law => k_is)
    (case p_law => k_is)
