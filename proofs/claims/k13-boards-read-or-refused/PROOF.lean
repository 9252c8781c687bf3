import PyProof.Rows.All
import Wide.All
import OpenK.AllK
import Wide.FinOn
import HandS.ForMost
import HandS.ForExc
import HandS.DictTup
import HandS.TupLen
import HandS.Deep
import HandS.IsInst
import HandS.ExcIs
import HandS.Conv
import HandS.SortRule
import HandS.StrMore
import HandS.Replace
import PyProof.DictMoreH
import KE.DataMinMax
import HandS.Codes
import PyProof.Rows.StrMul
import PySem.Challenge.RW_sidechain_k13_boards_read_or_refused
set_option Elab.async false
set_option maxRecDepth 100000
set_option maxHeartbeats 4000000
namespace SC
abbrev Cell := Int × Int

/-- b is a neighbour of a -/
def Adj (a b : Cell) : Prop :=
  (b.1 = a.1 - 1 ∧ b.2 = a.2) ∨ (b.1 = a.1 - 1 ∧ b.2 = a.2 + 1) ∨ (b.1 = a.1 ∧ b.2 = a.2 - 1) ∨
  (b.1 = a.1 ∧ b.2 = a.2 + 1) ∨ (b.1 = a.1 + 1 ∧ b.2 = a.2 - 1) ∨ (b.1 = a.1 + 1 ∧ b.2 = a.2)

theorem Adj.symm {a b : Cell} (h : Adj a b) : Adj b a := by unfold Adj at *; omega

inductive Linked (S : Cell → Prop) : Cell → Cell → Prop
  | refl {a : Cell} : S a → Linked S a a
  | snoc {a b c : Cell} : Linked S a b → Adj b c → S c → Linked S a c

theorem Linked.trans {S : Cell → Prop} {a b c : Cell} (h : Linked S a b) (g : Linked S b c) : Linked S a c := by
  induction g with
  | refl _ => exact h
  | snoc _ e s ih => exact .snoc ih e s
theorem Linked.left {S : Cell → Prop} {a b : Cell} (h : Linked S a b) : S a := by
  induction h with
  | refl s => exact s
  | snoc _ _ _ ih => exact ih
theorem Linked.right {S : Cell → Prop} {a b : Cell} (h : Linked S a b) : S b := by
  cases h with
  | refl s => exact s
  | snoc _ _ s => exact s
theorem Linked.cons {S : Cell → Prop} {a b c : Cell} (s : S a) (e : Adj a b) (g : Linked S b c) : Linked S a c :=
  (Linked.snoc (.refl s) e g.left).trans g
theorem Linked.symm {S : Cell → Prop} {a b : Cell} (h : Linked S a b) : Linked S b a := by
  induction h with
  | refl s => exact .refl s
  | snoc _ e s ih => exact .cons s e.symm ih
theorem Linked.mono {S U : Cell → Prop} {a b : Cell} (h : Linked S a b) (k : ∀ c, S c → U c) : Linked U a b := by
  induction h with
  | refl s => exact .refl (k _ s)
  | snoc _ e s ih => exact .snoc ih e (k _ s)
theorem Linked.map {S U : Cell → Prop} {a b : Cell} (f : Cell → Cell) (h : Linked S a b) (k : ∀ c, S c → U (f c)) (e : ∀ c d, Adj c d → Adj (f c) (f d)) : Linked U (f a) (f b) := by
  induction h with
  | refl s => exact .refl (k _ s)
  | snoc _ q s ih => exact .snoc ih (e _ _ q) (k _ s)
/-- what holds at the first and goes over each step holds at the last -/
theorem Linked.ind {S : Cell → Prop} {a b : Cell} (P : Cell → Prop) (h : Linked S a b) (h0 : P a) (hs : ∀ c d, S c → S d → Adj c d → P c → P d) : P b := by
  induction h with
  | refl _ => exact h0
  | snoc g e s ih => exact hs _ _ g.right s e ih

def flip (c : Cell) : Cell := (c.2, c.1)
theorem Adj.flip {a b : Cell} (h : Adj a b) : Adj (flip a) (flip b) := by
  unfold Adj at h
  show ((b.2 = a.2 - 1 ∧ b.1 = a.1) ∨ (b.2 = a.2 - 1 ∧ b.1 = a.1 + 1) ∨ (b.2 = a.2 ∧ b.1 = a.1 - 1) ∨
    (b.2 = a.2 ∧ b.1 = a.1 + 1) ∨ (b.2 = a.2 + 1 ∧ b.1 = a.1 - 1) ∨ (b.2 = a.2 + 1 ∧ b.1 = a.1))
  omega

/-! ### the board with three sides -/
def T (n : Int) (c : Cell) : Prop := 0 ≤ c.1 ∧ 0 ≤ c.2 ∧ c.1 + c.2 < n
def On (n : Int) (S : Cell → Prop) (c : Cell) : Prop := T n c ∧ S c
structure YWin (n : Int) (S : Cell → Prop) : Prop where
  ex : ∃ x a b c, Linked (On n S) x a ∧ a.1 = 0 ∧ Linked (On n S) x b ∧ b.2 = 0 ∧ Linked (On n S) x c ∧ c.1 + c.2 = n - 1

def Maj (S : Cell → Prop) (t : Cell) : Prop :=
  (S t ∧ S (t.1 + 1, t.2)) ∨ (S t ∧ S (t.1, t.2 + 1)) ∨ (S (t.1 + 1, t.2) ∧ S (t.1, t.2 + 1))
/-- a is one of the three cells of t -/
def Tri (t a : Cell) : Prop := a = t ∨ a = (t.1 + 1, t.2) ∨ a = (t.1, t.2 + 1)

theorem maj_not (S : Cell → Prop) (t : Cell) : Maj (fun c => ¬ S c) t ↔ ¬ Maj S t := by
  unfold Maj
  by_cases h1 : S t <;> by_cases h2 : S (t.1 + 1, t.2) <;> by_cases h3 : S (t.1, t.2 + 1) <;> simp [h1, h2, h3]

theorem tri_T {n : Int} {t a : Cell} (h : T (n - 1) t) (g : Tri t a) : T n a := by
  unfold T at *
  rcases g with rfl | rfl | rfl
  · omega
  · dsimp only; omega
  · dsimp only; omega

theorem tri_eqadj {t a b : Cell} (g : Tri t a) (h : Tri t b) : a = b ∨ Adj a b := by
  rcases g with rfl | rfl | rfl <;> rcases h with rfl | rfl | rfl <;> first | (left; rfl) | (right; unfold Adj; dsimp only; omega)

theorem tri_link {n : Int} {S : Cell → Prop} {t a b : Cell} (h : T (n - 1) t) (ga : Tri t a) (gb : Tri t b) (sa : S a) (sb : S b) : Linked (On n S) a b := by
  rcases tri_eqadj ga gb with e | e
  · subst e; exact .refl ⟨tri_T h ga, sa⟩
  · exact .snoc (.refl ⟨tri_T h ga, sa⟩) e ⟨tri_T h gb, sb⟩

theorem maj_two {S : Cell → Prop} {t : Cell} (m : Maj S t) : ∃ a, Tri t a ∧ S a := by
  rcases m with m | m | m
  · exact ⟨_, .inl rfl, m.1⟩
  · exact ⟨_, .inl rfl, m.1⟩
  · exact ⟨_, .inr (.inl rfl), m.1⟩

/-- two neighbouring triangles: cells of both that are one or neighbours -/
theorem maj_next {S : Cell → Prop} {t u : Cell} (mt : Maj S t) (mu : Maj S u) (e : Adj t u) : ∃ a b, Tri t a ∧ Tri u b ∧ S a ∧ S b ∧ (a = b ∨ Adj a b) := by
  obtain ⟨i, j⟩ := t
  obtain ⟨k, l⟩ := u
  unfold Maj at mt mu
  dsimp only at mt mu
  have key : ∀ a b, S a → S b → Tri (i, j) a → Tri (k, l) b → (a = b ∨ Adj a b) → ∃ a b, Tri (i, j) a ∧ Tri (k, l) b ∧ S a ∧ S b ∧ (a = b ∨ Adj a b) := fun a b sa sb ta tb h => ⟨a, b, ta, tb, sa, sb, h⟩
  unfold Adj at e
  dsimp only at e
  have t0 : Tri (i, j) (i, j) := .inl rfl
  have t1 : Tri (i, j) (i + 1, j) := .inr (.inl rfl)
  have t2 : Tri (i, j) (i, j + 1) := .inr (.inr rfl)
  have u0 : Tri (k, l) (k, l) := .inl rfl
  have u1 : Tri (k, l) (k + 1, l) := .inr (.inl rfl)
  have u2 : Tri (k, l) (k, l + 1) := .inr (.inr rfl)
  have dec : ∀ a b : Cell, ((a.1 = b.1 ∧ a.2 = b.2) ∨ Adj a b) → (a = b ∨ Adj a b) := fun a b h => h.imp (fun q => Prod.ext q.1 q.2) id
  rcases mt with ⟨m1, m2⟩ | ⟨m1, m2⟩ | ⟨m1, m2⟩ <;> rcases mu with ⟨n1, n2⟩ | ⟨n1, n2⟩ | ⟨n1, n2⟩ <;>
  first
  | (rcases e with e | e | e | e | e | e <;>
      first
      | exact key _ _ m1 n1 (by assumption) (by assumption) (dec _ _ (by unfold Adj; dsimp only; omega))
      | exact key _ _ m1 n2 (by assumption) (by assumption) (dec _ _ (by unfold Adj; dsimp only; omega))
      | exact key _ _ m2 n1 (by assumption) (by assumption) (dec _ _ (by unfold Adj; dsimp only; omega))
      | exact key _ _ m2 n2 (by assumption) (by assumption) (dec _ _ (by unfold Adj; dsimp only; omega)))

theorem lift_link {n : Int} {S : Cell → Prop} {t u : Cell} (h : Linked (On (n - 1) (Maj S)) t u) : ∀ {a b : Cell}, Tri t a → S a → Tri u b → S b → Linked (On n S) a b := by
  induction h with
  | refl s => exact fun ta sa tb sb => tri_link s.1 ta tb sa sb
  | snoc g e s ih =>
    intro a b ta sa tb sb
    obtain ⟨p, q, tp, tq, sp, sq, r⟩ := maj_next g.right.2 s.2 e
    have h1 := ih ta sa tp sp
    have h2 := tri_link (S := S) s.1 tq tb sq sb
    rcases r with r | r
    · subst r; exact h1.trans h2
    · exact (h1.snoc r h2.left).trans h2

theorem y_lift {n : Int} {S : Cell → Prop} (h : YWin (n - 1) (Maj S)) : YWin n S := by
  obtain ⟨x, a, b, c, ha, ea, hb, eb, hc, ec⟩ := h.ex
  obtain ⟨y, ty, sy⟩ := maj_two ha.left.2
  have h1 : ∃ a', Tri a a' ∧ S a' ∧ a'.1 = 0 := by
    rcases ha.right.2 with m | m | m
    · exact ⟨_, .inl rfl, m.1, ea⟩
    · exact ⟨_, .inl rfl, m.1, ea⟩
    · exact ⟨_, .inr (.inr rfl), m.2, ea⟩
  have h2 : ∃ b', Tri b b' ∧ S b' ∧ b'.2 = 0 := by
    rcases hb.right.2 with m | m | m
    · exact ⟨_, .inl rfl, m.1, eb⟩
    · exact ⟨_, .inl rfl, m.1, eb⟩
    · exact ⟨_, .inr (.inl rfl), m.1, eb⟩
  have h3 : ∃ c', Tri c c' ∧ S c' ∧ c'.1 + c'.2 = n - 1 := by
    rcases hc.right.2 with m | m | m
    · exact ⟨_, .inr (.inl rfl), m.2, by dsimp only; omega⟩
    · exact ⟨_, .inr (.inr rfl), m.2, by dsimp only; omega⟩
    · exact ⟨_, .inr (.inl rfl), m.1, by dsimp only; omega⟩
  obtain ⟨a', ta, sa, ea'⟩ := h1
  obtain ⟨b', tb, sb, eb'⟩ := h2
  obtain ⟨c', tc, sc, ec'⟩ := h3
  exact ⟨y, a', b', c', lift_link ha ty sy ta sa, ea', lift_link hb ty sy tb sb, eb', lift_link hc ty sy tc sc, ec'⟩

theorem edge_tri {n : Int} {S : Cell → Prop} {a b : Cell} (sa : On n S a) (sb : On n S b) (e : Adj a b) : ∃ t, On (n - 1) (Maj S) t ∧ Tri t a ∧ Tri t b := by
  obtain ⟨i, j⟩ := a
  obtain ⟨k, l⟩ := b
  obtain ⟨ta, sa⟩ := sa
  obtain ⟨tb, sb⟩ := sb
  unfold T at ta tb
  unfold Adj at e
  dsimp only at ta tb e
  have pe : ∀ {p q r s : Int}, p = r → q = s → ((p, q) : Cell) = (r, s) := fun h g => by rw [h, g]
  rcases e with e | e | e | e | e | e
  · have eb : ((k, l) : Cell) = (i - 1, j) := pe e.1 e.2
    have ea : ((i, j) : Cell) = (i - 1 + 1, j) := pe (by omega) rfl
    exact ⟨(i - 1, j), ⟨⟨by dsimp only; omega, by dsimp only; omega, by dsimp only; omega⟩, .inl ⟨eb ▸ sb, by show S (i - 1 + 1, j); exact ea ▸ sa⟩⟩, .inr (.inl ea), .inl eb⟩
  · have eb : ((k, l) : Cell) = (i - 1, j + 1) := pe e.1 e.2
    have ea : ((i, j) : Cell) = (i - 1 + 1, j) := pe (by omega) rfl
    exact ⟨(i - 1, j), ⟨⟨by dsimp only; omega, by dsimp only; omega, by dsimp only; omega⟩, .inr (.inr ⟨by show S (i - 1 + 1, j); exact ea ▸ sa, eb ▸ sb⟩)⟩, .inr (.inl ea), .inr (.inr eb)⟩
  · have eb : ((k, l) : Cell) = (i, j - 1) := pe e.1 e.2
    have ea : ((i, j) : Cell) = (i, j - 1 + 1) := pe rfl (by omega)
    exact ⟨(i, j - 1), ⟨⟨by dsimp only; omega, by dsimp only; omega, by dsimp only; omega⟩, .inr (.inl ⟨eb ▸ sb, by show S (i, j - 1 + 1); exact ea ▸ sa⟩)⟩, .inr (.inr ea), .inl eb⟩
  · have eb : ((k, l) : Cell) = (i, j + 1) := pe e.1 e.2
    exact ⟨(i, j), ⟨⟨by dsimp only; omega, by dsimp only; omega, by dsimp only; omega⟩, .inr (.inl ⟨sa, eb ▸ sb⟩)⟩, .inl rfl, .inr (.inr eb)⟩
  · have eb : ((k, l) : Cell) = (i + 1, j - 1) := pe e.1 e.2
    have ea : ((i, j) : Cell) = (i, j - 1 + 1) := pe rfl (by omega)
    exact ⟨(i, j - 1), ⟨⟨by dsimp only; omega, by dsimp only; omega, by dsimp only; omega⟩, .inr (.inr ⟨eb ▸ sb, by show S (i, j - 1 + 1); exact ea ▸ sa⟩)⟩, .inr (.inr ea), .inr (.inl eb)⟩
  · have eb : ((k, l) : Cell) = (i + 1, j) := pe e.1 e.2
    exact ⟨(i, j), ⟨⟨by dsimp only; omega, by dsimp only; omega, by dsimp only; omega⟩, .inl ⟨sa, eb ▸ sb⟩⟩, .inl rfl, .inr (.inl eb)⟩

theorem tri_share {t u a : Cell} (h : Tri t a) (g : Tri u a) : t = u ∨ Adj t u := by
  obtain ⟨i, j⟩ := t
  obtain ⟨k, l⟩ := u
  obtain ⟨p, q⟩ := a
  have dec : ((i = k ∧ j = l) ∨ Adj (i, j) (k, l)) → ((i, j) = (k, l) ∨ Adj (i, j) (k, l)) := fun h => h.imp (fun q => Prod.ext q.1 q.2) id
  apply dec
  unfold Tri at h g
  simp only [Prod.mk.injEq] at h g
  unfold Adj
  dsimp only
  omega

theorem lower_link {n : Int} {S : Cell → Prop} {a b t : Cell} (h : Linked (On n S) a b) (ht : On (n - 1) (Maj S) t) (ta : Tri t a) : ∃ u, Linked (On (n - 1) (Maj S)) t u ∧ Tri u b := by
  induction h with
  | refl s => exact ⟨t, .refl ht, ta⟩
  | snoc g e s ih =>
    obtain ⟨u, hu, tu⟩ := ih
    obtain ⟨v, hv, tv, tv'⟩ := edge_tri g.right s e
    rcases tri_share tu tv with q | q
    · subst q; exact ⟨u, hu, tv'⟩
    · exact ⟨v, hu.snoc q hv, tv'⟩

theorem Linked.moves {S : Cell → Prop} {a b : Cell} (h : Linked S a b) : a = b ∨ ∃ z, Adj a z ∧ S z := by
  induction h with
  | refl _ => exact .inl rfl
  | snoc g e s ih =>
    rcases ih with q | q
    · subst q; exact .inr ⟨_, e, s⟩
    · exact .inr q

theorem y_lower {n : Int} {S : Cell → Prop} (hn : 2 ≤ n) (h : YWin n S) : YWin (n - 1) (Maj S) := by
  obtain ⟨x, a, b, c, ha, ea, hb, eb, hc, ec⟩ := h.ex
  have hx : ∃ z, Adj x z ∧ On n S z := by
    rcases ha.moves with q | q
    · rcases hb.moves with r | r
      · rcases hc.moves with s | s
        · subst q; subst r; subst s; omega
        · exact s
      · exact r
    · exact q
  obtain ⟨z, ez, sz⟩ := hx
  obtain ⟨t, ht, tx, _⟩ := edge_tri ha.left sz ez
  obtain ⟨a', la, ta⟩ := lower_link ha ht tx
  obtain ⟨b', lb, tb⟩ := lower_link hb ht tx
  obtain ⟨c', lc, tc⟩ := lower_link hc ht tx
  have ra := la.right.1
  have rb := lb.right.1
  have rc := lc.right.1
  unfold T at ra rb rc
  refine ⟨t, a', b', c', la, ?_, lb, ?_, lc, ?_⟩
  · rcases ta with q | q | q
    · rw [← q]; exact ea
    · rw [q] at ea; dsimp only at ea; omega
    · rw [q] at ea; exact ea
  · rcases tb with q | q | q
    · rw [← q]; exact eb
    · rw [q] at eb; exact eb
    · rw [q] at eb; dsimp only at eb; omega
  · rcases tc with q | q | q
    · rw [← q]; rw [← q] at rc; omega
    · rw [q] at ec; dsimp only at ec; omega
    · rw [q] at ec; dsimp only at ec; omega

theorem YWin.congr {n : Int} {S U : Cell → Prop} (h : YWin n S) (k : ∀ c, T n c → S c → U c) : YWin n U := by
  obtain ⟨x, a, b, c, ha, ea, hb, eb, hc, ec⟩ := h.ex
  have m : ∀ z, On n S z → On n U z := fun z q => ⟨q.1, k z q.1 q.2⟩
  exact ⟨x, a, b, c, ha.mono m, ea, hb.mono m, eb, hc.mono m, ec⟩

theorem y_one : ∀ (m : Nat) (S : Cell → Prop), (YWin (m + 1) S ∨ YWin (m + 1) fun c => ¬ S c) ∧ ¬ (YWin (m + 1) S ∧ YWin (m + 1) fun c => ¬ S c)
  | 0, S => by
    have t0 : T ((0 : Nat) + 1) (0, 0) := ⟨by decide, by decide, by decide⟩
    have one : ∀ U : Cell → Prop, U (0, 0) → YWin ((0 : Nat) + 1) U := fun U u =>
      ⟨(0, 0), (0, 0), (0, 0), (0, 0), .refl ⟨t0, u⟩, rfl, .refl ⟨t0, u⟩, rfl, .refl ⟨t0, u⟩, rfl⟩
    have back : ∀ U : Cell → Prop, YWin ((0 : Nat) + 1) U → U (0, 0) := fun U h => by
      obtain ⟨x, a, b, c, ha, ea, hb, eb, hc, ec⟩ := h.ex
      obtain ⟨⟨p, q, r⟩, u⟩ := ha.left
      have e : x = (0, 0) := Prod.ext (by show x.1 = 0; omega) (by show x.2 = 0; omega)
      rw [e] at u
      exact u
    refine ⟨?_, fun h => (back _ h.2) (back _ h.1)⟩
    by_cases h : S (0, 0)
    · exact .inl (one S h)
    · exact .inr (one _ h)
  | m + 1, S => by
    have e : ((m + 1 : Nat) : Int) + 1 - 1 = (m : Int) + 1 := by omega
    have ih := y_one m (Maj S)
    have up : ∀ U : Cell → Prop, YWin ((m : Int) + 1) (Maj U) → YWin (((m + 1 : Nat) : Int) + 1) U := fun U h => y_lift (by rw [e]; exact h)
    have down : ∀ U : Cell → Prop, YWin (((m + 1 : Nat) : Int) + 1) U → YWin ((m : Int) + 1) (Maj U) := fun U h => by
      have q := y_lower (by omega) h
      rw [e] at q
      exact q
    refine ⟨?_, fun h => ih.2 ⟨down _ h.1, (down _ h.2).congr fun c _ q => (maj_not S c).mp q⟩⟩
    rcases ih.1 with h | h
    · exact .inl (up _ h)
    · exact .inr (up _ (h.congr fun c _ q => (maj_not S c).mpr q))

theorem YWin.flip {n : Int} {S : Cell → Prop} (h : YWin n S) : YWin n fun c => S (SC.flip c) := by
  obtain ⟨x, a, b, c, ha, ea, hb, eb, hc, ec⟩ := h.ex
  have m : ∀ z, On n S z → On n (fun c => S (SC.flip c)) (SC.flip z) := fun z q => ⟨⟨q.1.2.1, q.1.1, by have := q.1.2.2; show z.2 + z.1 < n; omega⟩, q.2⟩
  exact ⟨SC.flip x, SC.flip b, SC.flip a, SC.flip c, hb.map _ m fun _ _ => Adj.flip, eb, ha.map _ m fun _ _ => Adj.flip, ea, hc.map _ m fun _ _ => Adj.flip, by show c.2 + c.1 = n - 1; omega⟩

/-! ### the board with four sides -/
def B (R C : Int) (c : Cell) : Prop := 0 ≤ c.1 ∧ c.1 < R ∧ 0 ≤ c.2 ∧ c.2 < C
def In (R C : Int) (S : Cell → Prop) (c : Cell) : Prop := B R C c ∧ S c
/-- from the first column to the last -/
def LR (R C : Int) (S : Cell → Prop) : Prop := ∃ a d, a.2 = 0 ∧ d.2 = C - 1 ∧ Linked (In R C S) a d
/-- from the first row to the last -/
def TB (R C : Int) (S : Cell → Prop) : Prop := ∃ a d, a.1 = 0 ∧ d.1 = R - 1 ∧ Linked (In R C S) a d

theorem lr_of_y {R C : Int} {S U : Cell → Prop} (hC : 1 ≤ C) (h : YWin (R + C - 1) U) (k : ∀ c, T (R + C - 1) c → U c → c.2 < C → c.1 < R ∧ S c) : LR R C S := by
  obtain ⟨x, a, b, c, ha, ea, hb, eb, hc, ec⟩ := h.ex
  have g := hb.symm.trans hc
  have inb : ∀ z, On (R + C - 1) U z → z.2 < C → In R C S z := fun z q r => ⟨⟨q.1.1, (k z q.1 q.2 r).1, q.1.2.1, r⟩, (k z q.1 q.2 r).2⟩
  have st : (∃ d, Linked (In R C S) b d ∧ d.2 = C - 1) ∨ Linked (In R C S) b c := by
    refine g.ind (fun z => (∃ d, Linked (In R C S) b d ∧ d.2 = C - 1) ∨ Linked (In R C S) b z) (.inr (.refl (inb b g.left (by omega)))) ?_
    intro c d sc sd e p
    rcases p with p | p
    · exact .inl p
    · by_cases q : c.2 = C - 1
      · exact .inl ⟨c, p, q⟩
      · have bc := p.right.1
        unfold B at bc
        unfold Adj at e
        exact .inr (p.snoc e (inb d sd (by omega)))
  rcases st with ⟨d, l, q⟩ | l
  · exact ⟨b, d, eb, q, l⟩
  · have bc := l.right.1
    unfold B at bc
    exact ⟨b, c, eb, by omega, l⟩

theorem y_of_lr {R C : Int} {S U : Cell → Prop} (h : LR R C S) (k : ∀ c, B R C c → S c → U c) (k2 : ∀ c, T (R + C - 1) c → C ≤ c.2 → U c) : YWin (R + C - 1) U := by
  obtain ⟨a, d, ea, ed, l⟩ := h
  have m : ∀ z, In R C S z → On (R + C - 1) U z := fun z q => ⟨by have := q.1; unfold B at this; unfold T; omega, k z q.1 q.2⟩
  have l2 := l.mono m
  have bd := l.right.1
  unfold B at bd
  have od := l2.right
  obtain ⟨r, cc⟩ := d
  dsimp only at ed bd
  subst ed
  -- up to the first row: along the column behind the last one
  have colU : ∀ (p : Nat), (p : Int) + C < R + C - 1 → ∀ q : Nat, q ≤ p → Linked (On (R + C - 1) U) ((p : Int), C) (((p - q : Nat) : Int), C) := fun p hp q => by
    have inU : ∀ j : Nat, j ≤ p → On (R + C - 1) U ((j : Int), C) := fun j hj => by
      have tj : T (R + C - 1) ((j : Int), C) := ⟨by dsimp only; omega, by dsimp only; omega, by dsimp only; omega⟩
      exact ⟨tj, k2 _ tj (Int.le_refl C)⟩
    induction q with
    | zero => exact fun _ => .refl (inU p (Nat.le_refl p))
    | succ q ih =>
      intro hq
      refine (ih (by omega)).snoc ?_ (inU (p - (q + 1)) (by omega))
      left
      dsimp only
      exact ⟨by omega, rfl⟩
  -- to the third side: along the row
  have rowU : ∀ (q : Nat), r + (C - 1) + q < R + C - 1 → Linked (On (R + C - 1) U) (r, C - 1) (r, C - 1 + q) := fun q => by
    induction q with
    | zero => exact fun _ => by rw [show C - 1 + ((0 : Nat) : Int) = C - 1 by omega]; exact .refl od
    | succ q ih =>
      intro hq
      have tq : T (R + C - 1) (r, C - 1 + ((q + 1 : Nat) : Int)) := ⟨by dsimp only; omega, by dsimp only; omega, by dsimp only; omega⟩
      refine (ih (by omega)).snoc ?_ ⟨tq, k2 _ tq (by dsimp only; omega)⟩
      right; right; right; left
      dsimp only
      exact ⟨rfl, by omega⟩
  have first : ∃ z, Linked (On (R + C - 1) U) (r, C - 1) z ∧ z.1 = 0 := by
    by_cases h0 : r = 0
    · exact ⟨_, .refl od, h0⟩
    · -- (r - 1, C) is a neighbour
      have hp : ((r - 1).toNat : Int) = r - 1 := by omega
      have h1 := colU (r - 1).toNat (by rw [hp]; omega) (r - 1).toNat (Nat.le_refl _)
      rw [hp, Nat.sub_self] at h1
      refine ⟨_, .cons od ?_ h1, rfl⟩
      right; left
      dsimp only
      exact ⟨rfl, by omega⟩
  have third : ∃ z, Linked (On (R + C - 1) U) (r, C - 1) z ∧ z.1 + z.2 = R + C - 1 - 1 := by
    have hq : ((R - 1 - r).toNat : Int) = R - 1 - r := by omega
    have h1 := rowU (R - 1 - r).toNat (by rw [hq]; omega)
    refine ⟨_, h1, ?_⟩
    dsimp only
    omega
  obtain ⟨z1, g1, e1⟩ := first
  obtain ⟨z3, g3, e3⟩ := third
  exact ⟨_, z1, a, z3, g1, e1, l2.symm, ea, g3, e3⟩

theorem lr_flip {R C : Int} {S : Cell → Prop} (h : LR R C fun c => S (flip c)) : TB C R S := by
  obtain ⟨a, d, ea, ed, l⟩ := h
  exact ⟨flip a, flip d, ea, ed, l.map flip (fun c q => ⟨⟨q.1.2.2.1, q.1.2.2.2, q.1.1, q.1.2.1⟩, q.2⟩) fun _ _ => Adj.flip⟩
theorem tb_flip {R C : Int} {S : Cell → Prop} (h : TB C R S) : LR R C fun c => S (flip c) := by
  obtain ⟨a, d, ea, ed, l⟩ := h
  exact ⟨flip a, flip d, ea, ed, l.map flip (fun c q => ⟨⟨q.1.2.2.1, q.1.2.2.2, q.1.1, q.1.2.1⟩, q.2⟩) fun _ _ => Adj.flip⟩

/-- the board seen as one with three sides: the first hand's cells and what lies behind the last column -/
def Ext (R C : Int) (S : Cell → Prop) (c : Cell) : Prop := C ≤ c.2 ∨ (c.1 < R ∧ S c)

theorem hex {R C : Int} (hR : 1 ≤ R) (hC : 1 ≤ C) (S : Cell → Prop) : (LR R C S ∨ TB R C fun c => ¬ S c) ∧ ¬ (LR R C S ∧ TB R C fun c => ¬ S c) := by
  have en : (((R + C - 2).toNat : Nat) : Int) + 1 = R + C - 1 := by omega
  have y := y_one (R + C - 2).toNat (Ext R C S)
  rw [en] at y
  constructor
  · rcases y.1 with h | h
    · refine .inl (lr_of_y hC h fun c _ u q => ?_)
      rcases u with u | u
      · omega
      · exact u
    · refine .inr (lr_flip (R := C) (C := R) (S := fun c => ¬ S c) ?_)
      have h2 := h.flip
      rw [show R + C - 1 = C + R - 1 by omega] at h2
      refine lr_of_y hR h2 fun c _ u q => ?_
      have u' : ¬ (C ≤ c.1 ∨ (c.2 < R ∧ S (flip c))) := u
      refine ⟨?_, fun s => u' (.inr ⟨q, s⟩)⟩
      have : ¬ C ≤ c.1 := fun z => u' (.inl z)
      omega
  · intro ⟨h1, h2⟩
    refine y.2 ⟨y_of_lr h1 (fun c b s => .inr ⟨b.2.1, s⟩) fun c _ q => .inl q, ?_⟩
    have h3 := tb_flip (R := C) (C := R) h2
    have y3 : YWin (C + R - 1) fun c => ¬ Ext R C S (flip c) := by
      refine y_of_lr h3 (fun c b s u => ?_) fun c t q u => ?_
      · have u' : C ≤ c.1 ∨ (c.2 < R ∧ S (flip c)) := u
        have s' : ¬ S (flip c) := s
        have b' := b.2.1
        rcases u' with u' | u'
        · omega
        · exact s' u'.2
      · have u' : C ≤ c.1 ∨ (c.2 < R ∧ S (flip c)) := u
        unfold T at t
        rcases u' with u' | u'
        · omega
        · omega
    have y4 := y3.flip
    rw [show C + R - 1 = R + C - 1 by omega] at y4
    exact y4
end SC
/-! # What all our proofs of this program share: contracts of defs, cells, dicts of cells, boards -/
namespace SC
open PySem L2

/-! ### contracts -/
section
variable {P : Program} {w : World} {K : PySem.W.Frag} {mg : Str → Option Value} {base : Heap}
theorem ofX0 {k : Nat} {f : Addr} {fd : FuncData} {ps : List Str} {sp : Sp} (F : FnOk P w K mg base CX0 k f fd ps sp) : FnOk P w K mg base (L2.CX P w) k f fd ps sp := by
  refine ⟨F.len, fun A outer s H args us vs Q E hr he hb hv hs => ?_⟩
  refine codeAny_mono (F.run A outer s H args us vs Q E hr he hb hv hs) fun r s' h => ?_
  cases r with
  | error e => exact False.elim h
  | ok fl => cases fl <;> exact h
end
/-- the name x stands for a def that keeps sp -/
structure Cl (P : Program) (w : World) (K : PySem.W.Frag) (mg : Str → Option Value) (base : Heap) (k : Nat) (x : Str) (sp : Sp) : Prop where
  ex : ∃ (f : Addr) (fd : FuncData) (ps : List Str), mg x = some (.ref f) ∧ PySem.W.keepIn K (.ref f) = true ∧ Binds K fd ps [] ∧ FnOk P w K mg base (L2.CX P w) k f fd ps sp
/-- the class at C has a method m that keeps sp -/
structure Mt (P : Program) (w : World) (K : PySem.W.Frag) (mg : Str → Option Value) (base : Heap) (k : Nat) (C : Addr) (m : Str) (sp : Sp) : Prop where
  ex : ∃ (f : Addr) (fd : FuncData) (ps : List Str), Meth K C m f ∧ Binds K fd ps [] ∧ FnOk P w K mg base (L2.CX P w) k f fd ps sp
/-- the name x stands for the class at C, made by an __init__ that keeps sp -/
structure Mkr (P : Program) (w : World) (K : PySem.W.Frag) (mg : Str → Option Value) (base : Heap) (k : Nat) (x : Str) (C : Addr) (sp : Sp) : Prop where
  ex : ∃ (f : Addr) (fd : FuncData) (ps : List Str), mg x = some (.ref C) ∧ Mk K C f ∧ Binds K fd ps [] ∧ FnOk P w K mg base (L2.CX P w) k f fd ps sp
section
variable {X : Cx} {k j : Nat} {x m : Str} {sp : Sp} {E : XK} {p pos apos : Pos} {e o : Expr} {es : List Expr} {t : TA} {ta : TE} {C : Addr}
theorem pe_cl (c : Cl X.prog X.w X.K X.mg X.base k x sp) (hr : Room j X.A) (hx : Passes (L2.CX X.prog X.w) X E) (ha : PA X (e :: es) t) (hk : k ≤ j := by decide) (hg : Gl X x := by rfl) (hdb : (x == ("__debug__" : Str)) = false := by decide)
    (he : starEach (e :: es) X.env = (false, eval e X.env) :: starEach es X.env := by rfl) (hpl : (backTo pos (starEach es X.env)).any (·.1) = false := by rfl) :
    PE X (.Call (.Name x p) (e :: es) [] pos) (tCall sp [] E t) := by
  obtain ⟨f, fd, ps, h1, h2, h3, h4⟩ := c.ex
  exact pe_call h4 (hr.mono hk) hg h1 h2 h3 .nil hx ha hdb he hpl
theorem pe_mth (c : Mt X.prog X.w X.K X.mg X.base k C m sp) (T : Cls X.K C) {pl : Sem Bool} (he : PE X o ta) (hr : Room j X.A) (hx : Passes (L2.CX X.prog X.w) X E) (ha : PA X (e :: es) t) (hk : k ≤ j := by decide)
    (hst : starEach (e :: es) X.env = (false, eval e X.env) :: starEach es X.env := by rfl) (hpl : (backTo pos (starEach es X.env)).any (·.1) = false := by rfl)
    (ht : eval (.Call (.Attribute o m apos) (e :: es) [] pos) X.env = (do
      let ov ← eval o X.env
      standAt apos.atName
      let (f, first) ← holding [ov] (getMethod ov m pl)
      callWith pos f first (backTo pos (starEach (e :: es) X.env)) (backToKw pos (keywordEach [] X.env))) := by rfl) :
    PE X (.Call (.Attribute o m apos) (e :: es) [] pos) (tMeth C m sp [] E ta t) := by
  obtain ⟨f, fd, ps, h1, h3, h4⟩ := c.ex
  exact pe_meth he T h1 h4 (hr.mono hk) h3 .nil hx ha hst hpl ht
theorem pe_mth0 (c : Mt X.prog X.w X.K X.mg X.base k C m sp) (T : Cls X.K C) {pl : Sem Bool} (he : PE X o ta) (hr : Room j X.A) (hx : Passes (L2.CX X.prog X.w) X E) (hk : k ≤ j := by decide)
    (ht : eval (.Call (.Attribute o m apos) [] [] pos) X.env = (do
      let ov ← eval o X.env
      standAt apos.atName
      let (f, first) ← holding [ov] (getMethod ov m pl)
      callWith pos f first (backTo pos (starEach [] X.env)) (backToKw pos (keywordEach [] X.env))) := by rfl) :
    PE X (.Call (.Attribute o m apos) [] [] pos) (tMeth C m sp [] E ta tNil) := by
  obtain ⟨f, fd, ps, h1, h3, h4⟩ := c.ex
  exact pe_meth0 he T h1 h4 (hr.mono hk) h3 .nil hx ht
theorem pe_mkr (c : Mkr X.prog X.w X.K X.mg X.base k x C sp) (hr : Room j X.A) (hx : Passes (L2.CX X.prog X.w) X E) (ha : PA X (e :: es) t) (hk : k + 1 ≤ j := by decide) (hg : Gl X x := by rfl) (hdb : (x == ("__debug__" : Str)) = false := by decide)
    (he : starEach (e :: es) X.env = (false, eval e X.env) :: starEach es X.env := by rfl) (hpl : (backTo pos (starEach es X.env)).any (·.1) = false := by rfl) :
    PE X (.Call (.Name x p) (e :: es) [] pos) (tMake C sp [] E t) := by
  obtain ⟨f, fd, ps, h1, h2, h3, h4⟩ := c.ex
  exact pe_make h2 h4 (hr.mono hk) hg h1 h3 .nil hx ha hdb he hpl

/-! ### the same within a try: what is raised is wished for at the slots as they stand -/
/-- o.m(e, ..) within a try -/
def tMthS (C : Addr) (m : Str) (sp : Sp) (E : L2.St → XK) (ta : TE) (t : TA) : TE := fun σ H Q => ta σ H fun x H1 => ∃ a dx fs, x = .ref a ∧ H1 a = some (.ins C dx fs) ∧ fs.lookup m = none ∧ t σ H1 fun vs H2 => sp (x :: vs) H2 Q (E σ)
theorem pe_mthS {ES : L2.St → XK} {pl : Sem Bool} (c : Mt X.prog X.w X.K X.mg X.base k C m sp) (T : Cls X.K C) (he : PE X o ta) (hr : Room j X.A) (hx : ∀ σ, PassesAt (L2.CX X.prog X.w) X σ (ES σ)) (ha : PA X (e :: es) t) (hk : k ≤ j := by decide)
    (hst : starEach (e :: es) X.env = (false, eval e X.env) :: starEach es X.env := by rfl) (hpl : (backTo pos (starEach es X.env)).any (·.1) = false := by rfl)
    (ht : eval (.Call (.Attribute o m apos) (e :: es) [] pos) X.env = (do
      let ov ← eval o X.env
      standAt apos.atName
      let (f, first) ← holding [ov] (getMethod ov m pl)
      callWith pos f first (backTo pos (starEach (e :: es) X.env)) (backToKw pos (keywordEach [] X.env))) := by rfl) :
    PE X (.Call (.Attribute o m apos) (e :: es) [] pos) (tMthS C m sp ES ta t) := by
  obtain ⟨f, fd, ps, hm, hb, F⟩ := c.ex
  have hr := hr.mono hk
  refine ⟨fun pins s σ H Q I h => ?_⟩
  refine PySem.W.methodCall_KW (pl := pl) (thn (he.run pins s σ H _ I h) fun u s1 ⟨x, H1, I1, rx, a, dx, fs, ex, ea, l, q⟩ => ?_) ht
  subst ex
  obtain rfl : u = Value.ref a := rx
  refine getmeth_ok I1 ea T hm l ?_
  refine PySem.W.callWith_K (first := [.ref a]) (h₀ := X.base) I.ok.mod.kin hm.kp (thn (ha.run pos pins s1 σ H1 _ I1 q) fun us s2 ⟨vs, H2, I2, r, q2⟩ => ⟨I2.kIn, ?_⟩) hst hpl
  exact run_fnS (us := .ref a :: us) (vs := .ref a :: vs) F hr hb (hx σ) I2 (.cons rfl r) q2
/-- f(e, ..) within a try -/
theorem pe_clS {ES : L2.St → XK} (c : Cl X.prog X.w X.K X.mg X.base k x sp) (hr : Room j X.A) (hx : ∀ σ, PassesAt (L2.CX X.prog X.w) X σ (ES σ)) (ha : PA X (e :: es) t) (hk : k ≤ j := by decide) (hg : Gl X x := by rfl) (hdb : (x == ("__debug__" : Str)) = false := by decide)
    (he : starEach (e :: es) X.env = (false, eval e X.env) :: starEach es X.env := by rfl) (hpl : (backTo pos (starEach es X.env)).any (·.1) = false := by rfl) :
    PE X (.Call (.Name x p) (e :: es) [] pos) (fun σ H Q => t σ H fun vs H1 => sp vs H1 Q (ES σ)) := by
  obtain ⟨f, fd, ps, hm, hkp, hb, F⟩ := c.ex
  have hr := hr.mono hk
  refine ⟨fun pins s σ H Q I h => ?_⟩
  refine wpAny_Call_Name_kw (ld_glob I hg hm ?_ hdb)
  refine PySem.W.callWith_K (h₀ := X.base) I.ok.mod.kin hkp (thn (ha.run pos pins s σ H _ I h) fun us s1 ⟨vs, H1, I1, r, q⟩ => ⟨I1.kIn, ?_⟩) he hpl
  exact run_fnS F hr hb (hx σ) I1 r q
/-- C(e, ..) within a try -/
theorem pe_mkrS {ES : L2.St → XK} (c : Mkr X.prog X.w X.K X.mg X.base k x C sp) (hr : Room j X.A) (hx : ∀ (σ : L2.St), PassesAt (L2.CX X.prog X.w) X σ (ES σ)) (ha : PA X (e :: es) t) (hk : k + 1 ≤ j := by decide) (hg : Gl X x := by rfl) (hdb : (x == ("__debug__" : Str)) = false := by decide)
    (he : starEach (e :: es) X.env = (false, eval e X.env) :: starEach es X.env := by rfl) (hpl : (backTo pos (starEach es X.env)).any (·.1) = false := by rfl) :
    PE X (.Call (.Name x p) (e :: es) [] pos) (fun σ H Q => t σ H fun vs H1 => ∀ x dx, H1 x = none → H1 dx = none → dx ≠ x →
      sp (.ref x :: vs) (upd (upd H1 dx (.own x)) x (.ins C dx [])) (fun v H2 => v = .non ∧ Q (.ref x) H2) (ES σ)) := by
  obtain ⟨f, fd, ps, hm, M, hb, F⟩ := c.ex
  have hr := hr.mono hk
  refine ⟨fun pins s σ H Q I h => ?_⟩
  refine wpAny_Call_Name_kw (ld_glob I hg hm ?_ hdb)
  refine PySem.W.callWith_K (h₀ := X.base) I.ok.mod.kin M.kp (thn (ha.run pos pins s σ H _ I h) fun us s1 ⟨vs, H1, I1, r, q⟩ => ⟨I1.kIn, ?_⟩) he hpl
  have hq := q (s1.heap.objs.size + 1) s1.heap.objs.size (I1.hok.fresh (Nat.le_succ _)) (I1.hok.fresh (Nat.le_refl _)) (Nat.ne_of_lt (Nat.lt_succ_self _))
  have I2 := Inv.made (C := C) I1
  have r2 : Vals (V.ref (s1.heap.objs.size + 1) :: vs) (Value.ref (s1.heap.objs.size + 1) :: us) := .cons rfl r
  have hl : ((Value.ref (s1.heap.objs.size + 1) :: us) ++ []).length = ps.length := by
    have e := r2.length
    rw [F.len _ _ _ _ hq] at e
    rw [List.append_nil]
    exact e.symm
  have hbb := hb _ (Value.ref (s1.heap.objs.size + 1) :: us) I2.kIn hl
  rw [List.append_nil] at hbb
  refine wpAny_call (make_map (f := f) I1.kIn M.makes M.init (beq_iff_eq.mp M.fn) (codeAny_mono (F.run _ X.stack _ _ ⟨Value.ref (s1.heap.objs.size + 1) :: us, []⟩ (Value.ref (s1.heap.objs.size + 1) :: us) _ _ (ES σ) (hr.make C us [])
    (I2.env0.make C us []) hbb r2 hq) fun r s' hq' => ?_))
  cases r with
  | error e => exact hx σ pins _ _ e s' I2 hq'
  | ok fl =>
    cases fl with
    | ret u =>
      obtain ⟨v, H', I3, rv, ev, q3⟩ := I2.after hq'
      subst ev
      exact ⟨rv, ⟨V.ref (s1.heap.objs.size + 1), H', I3, rfl, q3⟩⟩
    | next => exact False.elim hq'
    | brk => exact False.elim hq'
    | cont => exact False.elim hq'
end
section
variable {P : Program} {w : World} {K : PySem.W.Frag} {mg : Str → Option Value} {base : Heap}
theorem Cl.mk' {k : Nat} {x : Str} {sp : Sp} {qual : Str} {st : Stmt} {f : Addr} {fd : FuncData} {ps : List Str} (F : Fun K x qual st f fd) (hm : mg x = some (.ref f)) (hb : Binds K fd ps []) (h : FnOk P w K mg base (L2.CX P w) k f fd ps sp) : Cl P w K mg base k x sp := ⟨f, fd, ps, hm, F.kp, hb, h⟩
theorem Cl.mono {k j : Nat} {x : Str} {sp : Sp} (c : Cl P w K mg base k x sp) (h : k ≤ j) : Cl P w K mg base j x sp := by
  obtain ⟨f, fd, ps, h1, h2, h3, h4⟩ := c.ex
  exact ⟨f, fd, ps, h1, h2, h3, h4.mono h⟩
theorem Mt.mono {k j : Nat} {C : Addr} {m : Str} {sp : Sp} (c : Mt P w K mg base k C m sp) (h : k ≤ j) : Mt P w K mg base j C m sp := by
  obtain ⟨f, fd, ps, h1, h3, h4⟩ := c.ex
  exact ⟨f, fd, ps, h1, h3, h4.mono h⟩
end

/-- an own exception class as the top has made it -/
structure XC (K : PySem.W.Frag) (mg : Str → Option Value) (x : Str) (C : Addr) : Prop where
  g : mg x = some (.ref C)
  x : PySem.W.excIn K C [.type "ValueError", .type "Exception", .type "BaseException", .type "object"] "ValueError.__new__" = true
  k : PySem.W.keepIn K (.ref C) = true
  b : PySem.W.subIn K (.ref C) (.type "BaseException") = some true
  t : PySem.W.typeIn K (.ref C) = some (.type "type")
/-- raise x('..') -/
theorem ps_rz {X : Cx} {W : WX} {x m : Str} {C : Addr} {j : Nat} {p p2 pos pos2 : Pos} (c : XC X.K X.mg x C) (tk : Takes X W) (hc : X.calm = true := by rfl) (hg : Gl X x := by rfl) (hdb : (x == ("__debug__" : Str)) = false := by decide) :
    PS X (.Raise (some (.Call (.Name x p) [.Constant (.str m) j p2] [] pos)) none pos2) (fun _ σ H => W (.ref C) none σ H) :=
  ps_raise hc tk (pmk_own PySem.F.excBase_ValueError c.x c.g c.k (raises_own c.b c.t) hg hdb)
theorem if_t {c : Bool} {A B : Prop} (hc : c = true) (h : A) : if c = true then A else B := by
  rw [if_pos hc]
  exact h
theorem if_f {c : Bool} {A B : Prop} (hc : c = false) (h : B) : if c = true then A else B := by
  rw [hc, if_neg Bool.false_ne_true]
  exact h
theorem if_b {c : Bool} {A B : Prop} (h1 : c = true → A) (h2 : c = false → B) : if c = true then A else B := by
  cases c
  · rw [if_neg Bool.false_ne_true]; exact h2 rfl
  · rw [if_pos rfl]; exact h1 rfl
end SC
namespace SC
open PySem PyProof.Rows L2

theorem ifD {p : Prop} [Decidable p] {A B : Prop} (h1 : p → A) (h2 : ¬ p → B) : if decide p = true then A else B := by
  by_cases h : p
  · rw [if_pos (decide_eq_true h)]; exact h1 h
  · rw [if_neg (by rw [decide_eq_false h]; exact Bool.false_ne_true)]; exact h2 h
theorem ifN {p : Prop} [Decidable p] {A B : Prop} (h1 : ¬ p → A) (h2 : p → B) : if (!decide p) = true then A else B := by
  by_cases h : p
  · rw [decide_eq_true h, if_neg (by decide)]; exact h2 h
  · rw [decide_eq_false h, if_pos (by decide)]; exact h1 h
theorem ifNN {b : Bool} {A B : Prop} (h1 : b = false → A) (h2 : b = true → B) : if (!b) = true then A else B := by
  cases b
  · exact h1 rfl
  · exact h2 rfl
theorem ifI {a b : Int} {A B : Prop} (h1 : a = b → A) (h2 : a ≠ b → B) : if decide (V.int a = V.int b) = true then A else B := ifD (fun h => h1 (V.int.inj h)) fun h => h2 fun z => h (by rw [z])
theorem ifIN {a b : Int} {A B : Prop} (h1 : a ≠ b → A) (h2 : a = b → B) : if (!decide (V.int a = V.int b)) = true then A else B := ifN (fun h => h1 fun z => h (by rw [z])) fun h => h2 (V.int.inj h)

/-! ### where things stand -/
/-- addresses (and tokens) that the top has given -/
structure Ad where
  C : Addr
  eBoardError : Addr
  eNoBoard : Addr
  eNoCell : Addr
  eNoHand : Addr
  eCellTaken : Addr
  eCellEmpty : Addr
  tG : Tok
  tS : Tok
  aAROUND : Addr
/-- what the top has left, the same for every law -/
structure Top (K : PySem.W.Frag) (mg : Str → Option Value) (D : Ad) : Prop where
  cl : Cls K D.C
  nH : NoAttr K D.C "height"
  nW : NoAttr K D.C "width"
  nO : NoAttr K D.C "owners"
  g_GREATEST : mg "GREATEST" = some (.int 10 D.tG)
  len : mg "len" = none
  range : mg "range" = none
  isinstance : mg "isinstance" = none
  min : mg "min" = none
  sorted : mg "sorted" = none
  list : mg "list" = none
  set : mg "set" = none
  int : mg "int" = none
  bool : mg "bool" = none
  tuple : mg "tuple" = none
  str : mg "str" = none
  ValueError : mg "ValueError" = none
theorem pe_ty {X : Cx} {x : Str} {n : String} {pos : Pos} (hm : X.mg x = none) (hv : bootBuiltins x = some (.type n)) (hg : Gl X x := by rfl) (hn : x ≠ "__name__" := by decide) (hdb : (x == ("__debug__" : Str)) = false := by decide) : PE X (.Name x pos) (tC (.ty n)) :=
  pe_bltn hg hm hv rfl hn hdb

theorem ix_tupK {X : Cx} (K : PySem.W.Frag) (h : X.K = K := by rfl) : IxR X (rIxT K) := by subst h; exact ix_tup
theorem pe_fldK {X : Cx} (K : PySem.W.Frag) {e : Expr} {f : Str} {ta : TE} {pos : Pos} (he : PE X e ta) (hb : attributeBase e f X.env (eval e X.env) = eval e X.env) (h : X.K = K := by rfl) : PE X (.Attribute e f pos) (tFld K ta f) := by subst h; exact pe_fld he hb

/-- 0 <= b < c, c a name -/
def tBtw (n : Nat) (tb : TE) : TT := fun σ H Q => tb σ H fun y H2 => ∃ j k : Int, y = .int j ∧ σ[n]? = some (some (.int k)) ∧ Q (decide (0 ≤ j ∧ j < k)) H2
theorem pt_btw {X : Cx} {n : Nat} {b c : Expr} {tb : TE} {jj : Nat} {p0 pos : Pos} (hb : PE X b tb) (hc : PE X c (tVar n)) (hm : lastMarks [.LtE, .Lt] [b, c] = false := by with_unfolding_all rfl) :
    PT X (.Compare (.Constant (.int 0) jj p0) [.LtE, .Lt] [b, c] pos) (tBtw n tb) := by
  refine ⟨fun pins s σ H Q I h => ?_⟩
  refine isTrue_chain (thn ((pe_int (X := X)).run pins s σ H (fun x H1 => x = V.int 0 ∧ H1 = H) I ⟨rfl, rfl⟩) fun v s1 hh => ?_) hm
  obtain ⟨x, H1, I1, r1, e1, e2⟩ := hh
  subst e1
  subst e2
  refine test_link (thn (hb.run pins s1 σ _ _ I1 h) fun u s2 hh => ?_)
  obtain ⟨y, H2, I2, r2, j, k, ey, hk, q⟩ := hh
  subst ey
  refine thn (op_le pins s2 σ H2 (.int 0) (.int j) v u (fun z H3 => z = V.bl (decide (0 ≤ j)) ∧ H3 = H2) I2 r1 r2 ⟨_, _, rfl, rfl, rfl, rfl⟩) fun d s3 hh => ?_
  obtain ⟨z, H3, I3, r3, e3, e4⟩ := hh
  subst e3
  subst e4
  cases r3
  refine wpAny_truthy_bool ?_
  by_cases hj : 0 ≤ j
  · rw [decide_eq_true hj]
    refine ite_tt (test_last (thn (hc.run pins s3 σ _ (fun z H4 => z = V.int k ∧ H4 = H3) I3 ⟨_, hk, rfl, rfl⟩) fun w' s4 hh => ?_))
    obtain ⟨z', H4, I4, r4, e5, e6⟩ := hh
    subst e5
    subst e6
    refine thn (op_lt pins s4 σ _ (.int j) (.int k) u w' (fun z H3 => z = V.bl (decide (j < k)) ∧ H3 = H4) I4 r2 r4 ⟨_, _, rfl, rfl, rfl, rfl⟩) fun d' s5 hh => ?_
    obtain ⟨z5, H5, I5, r5, e7, e8⟩ := hh
    subst e7
    subst e8
    cases r5
    have e : decide (0 ≤ j ∧ j < k) = decide (j < k) := decide_eq_decide.mpr ⟨fun z => z.2, fun z => ⟨hj, z⟩⟩
    rw [e] at q
    exact wpAny_truthy_bool ⟨H5, I5, q⟩
  · rw [decide_eq_false hj]
    rw [decide_eq_false fun z => hj z.1] at q
    exact ite_ff ⟨_, I3, q⟩

/-! ### cells in the heap -/
/-- v is the pair c -/
def PairAt (H : Hp) (v : V) (c : Cell) : Prop := ∃ t, v = .ref t ∧ H t = some (.tup [.int c.1, .int c.2])
abbrev Cells (H : Hp) : List V → List Cell → Prop := Paired (PairAt H)
theorem PairAt.same {H H' : Hp} {v : V} {c : Cell} (h : PairAt H v c) (s : Same H H') : PairAt H' v c := by
  obtain ⟨t, e, ht⟩ := h
  exact ⟨t, e, s _ _ ht⟩
theorem Cells.same {H H' : Hp} {vs : List V} {cs : List Cell} (h : Cells H vs cs) (s : Same H H') : Cells H' vs cs := L2.Paired.mapP h fun _ _ p => p.same s
theorem PairAt.upd {H : Hp} {v : V} {c : Cell} {a : Addr} {o o' : HO} (h : PairAt H v c) (ha : H a = some o) (hn : ∀ xs, o ≠ .tup xs) : PairAt (upd H a o') v c := by
  obtain ⟨t, e, ht⟩ := h
  exact ⟨t, e, by rw [upd_ne (ne_of ht ha fun z => hn _ z.symm)]; exact ht⟩
theorem Cells.upd {H : Hp} {vs : List V} {cs : List Cell} {a : Addr} {o o' : HO} (h : Cells H vs cs) (ha : H a = some o) (hn : ∀ xs, o ≠ .tup xs) : Cells (upd H a o') vs cs := L2.Paired.mapP h fun _ _ p => p.upd ha hn
theorem same_upd {H : Hp} {a : Addr} {o : HO} (h : H a = none) : Same H (upd H a o) := fun b u e => by rw [upd_ne (ne_of_none e h)]; exact e
theorem paired_len {α β : Type} {F : α → β → Prop} {l : List α} {m : List β} (h : Paired F l m) : l.length = m.length := Paired.length h
theorem paired_get {α β : Type} {F : α → β → Prop} : ∀ {l : List α} {m : List β} {i : Nat} {x : α}, Paired F l m → l[i]? = some x → ∃ y, m[i]? = some y ∧ F x y
  | _, _, _, _, .nil, h => by simp at h
  | _, _, 0, _, .cons f _, h => by
    simp at h; subst h; exact ⟨_, rfl, f⟩
  | _, _, i + 1, x, .cons _ t, h => by
    simp at h
    obtain ⟨y, h1, h2⟩ := paired_get (i := i) t h
    exact ⟨y, by simpa using h1, h2⟩
theorem paired_get' {α β : Type} {F : α → β → Prop} : ∀ {l : List α} {m : List β} {i : Nat} {y : β}, Paired F l m → m[i]? = some y → ∃ x, l[i]? = some x ∧ F x y
  | _, _, _, _, .nil, h => by simp at h
  | _, _, 0, _, .cons f _, h => by
    simp at h; subst h; exact ⟨_, rfl, f⟩
  | _, _, i + 1, x, .cons _ t, h => by
    simp at h
    obtain ⟨y, h1, h2⟩ := paired_get' (i := i) t h
    exact ⟨y, by simpa using h1, h2⟩
theorem paired_app {α β : Type} {F : α → β → Prop} : ∀ {l l2 : List α} {m m2 : List β}, Paired F l m → Paired F l2 m2 → Paired F (l ++ l2) (m ++ m2)
  | _, _, _, _, .nil, g => g
  | _, _, _, _, .cons f t, g => .cons f (paired_app t g)
theorem take_more {α : Type} : ∀ {l : List α} {i : Nat} {x : α}, l[i]? = some x → l.take (i + 1) = l.take i ++ [x]
  | [], i, x, h => by simp at h
  | a :: l, 0, x, h => by
    have e : a = x := Option.some.inj h
    subst e
    rfl
  | a :: l, i + 1, x, h => by
    have ih := take_more (l := l) (i := i) (x := x) h
    show a :: l.take (i + 1) = a :: l.take i ++ [x]
    rw [ih]
    rfl

/-! ### dicts of cells -/
abbrev key (c : Cell) : List Key := [Sum.inl c.1, Sum.inl c.2]
def dk {α : Type} (g : α → V) (kvs : List (Cell × α)) : List (List Key × V) := kvs.map fun p => (key p.1, g p.2)
theorem key_inj {a b : Cell} (h : key a = key b) : a = b := by
  injection h with h1 h2
  injection h2 with h2 _
  injection h1 with h1
  injection h2 with h2
  exact Prod.ext h1 h2
theorem kv_key (c : Cell) : (key c).map kV = [V.int c.1, V.int c.2] := rfl
/-- what a dict holds -/
def lk {α : Type} (kvs : List (Cell × α)) (c : Cell) : Option α := (kvs.find? fun p => decide (p.1 = c)).map (·.2)
theorem lk_nil {α : Type} (c : Cell) : lk ([] : List (Cell × α)) c = none := rfl
theorem lk_cons {α : Type} (p : Cell × α) (r : List (Cell × α)) (c : Cell) : lk (p :: r) c = if p.1 = c then some p.2 else lk r c := by
  unfold lk
  rw [List.find?_cons]
  by_cases h : p.1 = c
  · simp [h]
  · simp [h]
theorem val_dk {α : Type} (g : α → V) : ∀ (kvs : List (Cell × α)) (c : Cell), valV (dk g kvs) (key c) = (lk kvs c).map g
  | [], _ => rfl
  | p :: r, c => by
    have ih := val_dk g r c
    unfold valV at ih ⊢
    unfold dk at ih ⊢
    rw [List.map_cons, List.find?_cons, lk_cons]
    by_cases h : p.1 = c
    · subst h; simp
    · have h2 : ¬ key p.1 = key c := fun z => h (key_inj z)
      simp only [h2, decide_false, if_neg h]
      exact ih
theorem lk_some {α : Type} : ∀ {kvs : List (Cell × α)} {c : Cell} {v : α}, lk kvs c = some v → (c, v) ∈ kvs
  | [], _, _, h => by simp [lk] at h
  | p :: r, c, v, h => by
    rw [lk_cons] at h
    by_cases e : p.1 = c
    · rw [if_pos e] at h
      cases h
      subst e
      exact List.mem_cons_self ..
    · rw [if_neg e] at h
      exact List.mem_cons_of_mem _ (lk_some h)
theorem lk_none {α : Type} : ∀ {kvs : List (Cell × α)} {c : Cell}, lk kvs c = none ↔ c ∉ kvs.map (·.1)
  | [], _ => by simp [lk]
  | p :: r, c => by
    rw [lk_cons, List.map_cons, List.mem_cons, not_or]
    by_cases e : p.1 = c
    · simp [e]
    · rw [if_neg e, lk_none (kvs := r)]
      exact ⟨fun h => ⟨fun z => e z.symm, h⟩, fun h => h.2⟩
theorem lk_mem {α : Type} : ∀ {kvs : List (Cell × α)} {c : Cell} {v : α}, (kvs.map (·.1)).Nodup → (c, v) ∈ kvs → lk kvs c = some v
  | [], _, _, _, h => by simp at h
  | p :: r, c, v, nd, h => by
    rw [List.map_cons, List.nodup_cons] at nd
    rw [lk_cons]
    rcases List.mem_cons.mp h with h | h
    · subst h; simp
    · have hc : c ∈ r.map (·.1) := List.mem_map.mpr ⟨_, h, rfl⟩
      rw [if_neg fun z => nd.1 (by rw [z]; exact hc)]
      exact lk_mem nd.2 h
/-- a store of a new key -/
theorem lk_snoc {α : Type} (kvs : List (Cell × α)) (a : Cell) (v : α) (c : Cell) (h : lk kvs a = none) : lk (kvs ++ [(a, v)]) c = if a = c then some v else lk kvs c := by
  induction kvs with
  | nil => rw [List.nil_append, lk_cons]
  | cons p r ih =>
    rw [lk_cons] at h
    by_cases e : p.1 = a
    · rw [if_pos e] at h; cases h
    · rw [if_neg e] at h
      rw [List.cons_append, lk_cons, lk_cons, ih h]
      by_cases e2 : p.1 = c
      · rw [if_pos e2, if_pos e2, if_neg fun z => e (e2.trans z.symm)]
      · rw [if_neg e2, if_neg e2]
theorem put_dk {α : Type} (g : α → V) (kvs : List (Cell × α)) (a : Cell) (v : α) (h : lk kvs a = none) : putK (dk g kvs) (key a) (g v) = dk g (kvs ++ [(a, v)]) := by
  rw [putK_new _ (by rw [val_dk, h]; rfl)]
  unfold dk
  rw [List.map_append]
  rfl
def drop {α : Type} (kvs : List (Cell × α)) (c : Cell) : List (Cell × α) := kvs.filter fun p => decide (p.1 ≠ c)
theorem drop_dk {α : Type} (g : α → V) (kvs : List (Cell × α)) (a : Cell) : dropK (dk g kvs) (key a) = dk g (drop kvs a) := by
  induction kvs with
  | nil => rfl
  | cons p r ih =>
    unfold dk dropK drop at ih ⊢
    rw [List.map_cons, List.filter_cons, List.filter_cons]
    by_cases e : p.1 = a
    · subst e
      simp only [ne_eq, not_true, decide_false, Bool.false_eq_true, if_false]
      exact ih
    · have e2 : ¬ key p.1 = key a := fun z => e (key_inj z)
      simp only [ne_eq, e, e2, not_false_eq_true, decide_true, if_true, List.map_cons]
      rw [ih]
theorem lk_drop {α : Type} (kvs : List (Cell × α)) (a c : Cell) : lk (drop kvs a) c = if a = c then none else lk kvs c := by
  induction kvs with
  | nil => simp [drop, lk]
  | cons p r ih =>
    unfold drop at ih ⊢
    rw [List.filter_cons]
    by_cases e : p.1 = a
    · subst e
      simp only [ne_eq, not_true, decide_false, Bool.false_eq_true, if_false]
      rw [ih, lk_cons]
      by_cases e2 : p.1 = c
      · rw [if_pos e2, if_pos e2]
      · rw [if_neg e2, if_neg e2, if_neg e2]
    · simp only [ne_eq, e, not_false_eq_true, decide_true, if_true]
      rw [lk_cons, lk_cons, ih]
      by_cases e2 : p.1 = c
      · rw [if_pos e2, if_pos e2, if_neg fun z => e (e2.trans z.symm)]
      · rw [if_neg e2, if_neg e2]
theorem drop_nodup {α : Type} {kvs : List (Cell × α)} {a : Cell} (h : (kvs.map (·.1)).Nodup) : ((drop kvs a).map (·.1)).Nodup := h.sublist (List.filter_sublist.map _)
theorem drop_sub {α : Type} {kvs : List (Cell × α)} {a : Cell} {p : Cell × α} (h : p ∈ drop kvs a) : p ∈ kvs := (List.mem_filter.mp h).1
theorem drop_len {α : Type} (kvs : List (Cell × α)) (a : Cell) : (drop kvs a).length ≤ kvs.length := List.length_filter_le _ _
theorem snoc_nodup {α : Type} {kvs : List (Cell × α)} {a : Cell} {v : α} (h : (kvs.map (·.1)).Nodup) (n : lk kvs a = none) : ((kvs ++ [(a, v)]).map (·.1)).Nodup := by
  rw [List.map_append]
  exact nd_snoc h (lk_none.mp n)

/-! ### a board -/
abbrev flds (R C : Int) (d : Addr) : List (Str × V) := [("height", .int R), ("width", .int C), ("owners", .ref d)]
theorem lk_here {k : Str} {v : V} {r : List (Str × V)} : List.lookup k ((k, v) :: r) = some v := by
  have e : (k == k) = true := beq_self_eq_true k
  simp only [List.lookup, e]
theorem lk_past {k g : Str} {v : V} {r : List (Str × V)} (h : (k == g) = false) : List.lookup k ((g, v) :: r) = List.lookup k r := by
  simp only [List.lookup, h]
theorem fl_H (R C : Int) (d : Addr) : (flds R C d).lookup ("height" : Str) = some (.int R) := lk_here
theorem fl_W (R C : Int) (d : Addr) : (flds R C d).lookup ("width" : Str) = some (.int C) := (lk_past (by decide +kernel)).trans lk_here
theorem fl_O (R C : Int) (d : Addr) : (flds R C d).lookup ("owners" : Str) = some (.ref d) := (lk_past (by decide +kernel)).trans ((lk_past (by decide +kernel)).trans lk_here)
theorem fl_no (R C : Int) (d : Addr) {m : Str} (h1 : (m == ("height" : Str)) = false) (h2 : (m == ("width" : Str)) = false) (h3 : (m == ("owners" : Str)) = false) : (flds R C d).lookup m = none :=
  (lk_past h1).trans ((lk_past h2).trans ((lk_past h3).trans rfl))
theorem fl_mk (R C : Int) (d : Addr) : putF "owners" (.ref d) (putF "width" (.int C) (putF "height" (.int R) [])) = flds R C d := by
  have h1 : ¬ (("height" : Str) = "width") := by decide +kernel
  have h2 : ¬ (("height" : Str) = "owners") := by decide +kernel
  have h3 : ¬ (("width" : Str) = "owners") := by decide +kernel
  show putF "owners" (.ref d) (if ("height" : Str) = "width" then _ else (("height" : Str), V.int R) :: putF "width" (.int C) []) = _
  rw [if_neg h1]
  show (if ("height" : Str) = "owners" then _ else (("height" : Str), V.int R) :: putF "owners" (.ref d) [(("width" : Str), V.int C)]) = _
  rw [if_neg h2]
  show _ :: (if ("width" : Str) = "owners" then _ else (("width" : Str), V.int C) :: putF "owners" (.ref d) []) = _
  rw [if_neg h3]
  rfl
/-- whose the cells are: the pairs of a board's dict -/
abbrev Own := List (Cell × Int)
def ow (kv : Own) (c : Cell) : Int := (lk kv c).getD 0
/-- a board's own state is in form -/
structure BOk (R C : Int) (kv : Own) : Prop where
  r1 : 1 ≤ R
  r2 : R ≤ 10
  c1 : 1 ≤ C
  c2 : C ≤ 10
  nd : (kv.map (·.1)).Nodup
  ok : ∀ p ∈ kv, B R C p.1 ∧ (p.2 = 1 ∨ p.2 = 2)
/-- a Board stands at b, its dict at d -/
structure BoardAt (D : Ad) (H : Hp) (b d : Addr) (R C : Int) (kv : Own) : Prop where
  ob : ∃ dx, H b = some (.ins D.C dx (flds R C d))
  dc : H d = some (.dT (dk V.int kv))
  ok : BOk R C kv
theorem BoardAt.same {D : Ad} {H H' : Hp} {b d : Addr} {R C : Int} {kv : Own} (h : BoardAt D H b d R C kv) (s : Same H H') : BoardAt D H' b d R C kv := by
  obtain ⟨⟨dx, h1⟩, h2, h3⟩ := h
  exact ⟨⟨dx, s _ _ h1⟩, s _ _ h2, h3⟩
theorem BoardAt.ne {D : Ad} {H : Hp} {b d : Addr} {R C : Int} {kv : Own} (h : BoardAt D H b d R C kv) : b ≠ d := by
  obtain ⟨⟨dx, h1⟩, h2, h3⟩ := h
  exact ne_of h1 h2 (by intro z; cases z)
/-- the cells of a board are few -/
theorem pigeon {α : Type} [DecidableEq α] : ∀ (l m : List α), l.Nodup → (∀ x ∈ l, x ∈ m) → l.length ≤ m.length
  | [], m, _, _ => Nat.zero_le _
  | a :: l, m, nd, h => by
    rw [List.nodup_cons] at nd
    have h1 := pigeon l (m.erase a) nd.2 fun x hx => (List.mem_erase_of_ne fun z => nd.1 (by rw [← z]; exact hx)).mpr (h x (List.mem_cons_of_mem _ hx))
    have h2 : (m.erase a).length + 1 = m.length := by
      have := List.length_erase_of_mem (h a (List.mem_cons_self ..))
      have := List.length_pos_of_mem (h a (List.mem_cons_self ..))
      omega
    rw [List.length_cons]
    omega
/-- all cells, row by row -/
def cellsN (R C : Nat) : List Cell := (List.range R).flatMap fun (r : Nat) => (List.range C).map fun (c : Nat) => (((r : Nat) : Int), ((c : Nat) : Int))
def cells (R C : Int) : List Cell := cellsN R.toNat C.toNat
theorem mem_cells {R C : Int} {c : Cell} : c ∈ cells R C ↔ B R C c := by
  unfold cells cellsN B
  simp only [List.mem_flatMap, List.mem_range, List.mem_map]
  constructor
  · rintro ⟨r, hr, k, hk, rfl⟩
    dsimp only
    omega
  · intro h
    exact ⟨c.1.toNat, by omega, c.2.toNat, by omega, Prod.ext (by dsimp only; omega) (by dsimp only; omega)⟩
theorem cells_len (R C : Int) : (cells R C).length = R.toNat * C.toNat := by
  unfold cells cellsN
  induction R.toNat with
  | zero => simp
  | succ n ih =>
    rw [List.range_succ, List.flatMap_append, List.length_append, ih]
    simp [Nat.succ_mul]
theorem cells_small {R C : Int} (hr : R ≤ 10) (hc : C ≤ 10) : (cells R C).length ≤ 100 := by
  rw [cells_len]
  have h1 : R.toNat ≤ 10 := by omega
  have h2 : C.toNat ≤ 10 := by omega
  exact Nat.mul_le_mul h1 h2
theorem few {α : Type} {R C : Int} {kvs : List (Cell × α)} (hr : R ≤ 10) (hc : C ≤ 10) (nd : (kvs.map (·.1)).Nodup) (h : ∀ p ∈ kvs, B R C p.1) : kvs.length ≤ 100 := by
  have h1 := pigeon (kvs.map (·.1)) (cells R C) nd fun x hx => by
    obtain ⟨p, hp, e⟩ := List.mem_map.mp hx
    rw [← e]
    exact mem_cells.mpr (h p hp)
  rw [List.length_map] at h1
  exact Nat.le_trans h1 (cells_small hr hc)
theorem fewc {R C : Int} {cs : List Cell} (hr : R ≤ 10) (hc : C ≤ 10) (nd : cs.Nodup) (h : ∀ p ∈ cs, B R C p) : cs.length ≤ 100 :=
  Nat.le_trans (pigeon cs (cells R C) nd fun x hx => mem_cells.mpr (h x hx)) (cells_small hr hc)
theorem BOk.few {R C : Int} {kv : Own} (h : BOk R C kv) : kv.length ≤ 100 := SC.few h.r2 h.c2 h.nd fun p hp => (h.ok p hp).1
theorem BOk.ow_hand {R C : Int} {kv : Own} (h : BOk R C kv) (c : Cell) : (ow kv c = 0 ∧ lk kv c = none) ∨ ((ow kv c = 1 ∨ ow kv c = 2) ∧ lk kv c = some (ow kv c)) := by
  unfold ow
  cases e : lk kv c with
  | none => exact .inl ⟨rfl, rfl⟩
  | some v => exact .inr ⟨(h.ok _ (lk_some e)).2, rfl⟩
theorem BOk.put {R C : Int} {kv : Own} (h : BOk R C kv) {c : Cell} {v : Int} (hb : B R C c) (hv : v = 1 ∨ v = 2) (n : lk kv c = none) : BOk R C (kv ++ [(c, v)]) := by
  refine ⟨h.r1, h.r2, h.c1, h.c2, snoc_nodup h.nd n, fun p hp => ?_⟩
  rcases List.mem_append.mp hp with hp | hp
  · exact h.ok p hp
  · rw [List.mem_singleton.mp hp]
    exact ⟨hb, hv⟩
theorem BOk.lift {R C : Int} {kv : Own} (h : BOk R C kv) (c : Cell) : BOk R C (drop kv c) :=
  ⟨h.r1, h.r2, h.c1, h.c2, drop_nodup h.nd, fun p hp => h.ok p (drop_sub hp)⟩
theorem BOk.nil {R C : Int} (h1 : 1 ≤ R) (h2 : R ≤ 10) (h3 : 1 ≤ C) (h4 : C ≤ 10) : BOk R C [] := ⟨h1, h2, h3, h4, List.nodup_nil, fun _ h => by simp at h⟩
instance decB (R C : Int) (c : Cell) : Decidable (B R C c) := by unfold B; infer_instance
end SC
namespace SC
open PySem PyProof.Rows L2

/-! ### the mathematics of cells -/
/-- the steps to the neighbours, in the told order -/
def steps : List Cell := [(-1, 0), (-1, 1), (0, -1), (0, 1), (1, -1), (1, 0)]
def around (c : Cell) : List Cell := steps.map fun s => (c.1 + s.1, c.2 + s.2)
def near (R C : Int) (c : Cell) : List Cell := (around c).filter fun z => decide (B R C z)
/-- the empty cells, row by row -/
def empt (R C : Int) (kv : Own) : List Cell := (cells R C).filter fun c => (lk kv c).isNone
theorem mem_around {a b : Cell} : b ∈ around a ↔ Adj a b := by
  obtain ⟨i, j⟩ := a
  obtain ⟨k, l⟩ := b
  unfold around steps Adj
  simp only [List.map_cons, List.map_nil, List.mem_cons, List.not_mem_nil, or_false, Prod.mk.injEq]
  omega
theorem mem_near {R C : Int} {a b : Cell} : b ∈ near R C a ↔ Adj a b ∧ B R C b := by
  unfold near
  rw [List.mem_filter, mem_around, decide_eq_true_eq]
theorem mem_empt {R C : Int} {kv : Own} {c : Cell} : c ∈ empt R C kv ↔ B R C c ∧ lk kv c = none := by
  unfold empt
  rw [List.mem_filter, mem_cells]
  simp
theorem near_len (R C : Int) (c : Cell) : (near R C c).length ≤ 6 := List.length_filter_le _ _
theorem empt_len {R C : Int} (h1 : R ≤ 10) (h2 : C ≤ 10) (kv : Own) : (empt R C kv).length ≤ 100 := Nat.le_trans (List.length_filter_le _ _) (cells_small h1 h2)
theorem at0 {x y : V} : atI [x, y] 0 = some x := rfl
theorem at1 {x y : V} : atI [x, y] 1 = some y := rfl

theorem filter_take {α : Type} {l : List α} {i : Nat} {x : α} (p : α → Bool) (h : l[i]? = some x) : (l.take (i + 1)).filter p = (l.take i).filter p ++ (if p x = true then [x] else []) := by
  rw [take_more h, List.filter_append]
  congr 1
  by_cases e : p x = true
  · rw [if_pos e, List.filter_cons_of_pos e]; rfl
  · rw [if_neg e, List.filter_cons_of_neg e]; rfl
theorem map_take {α β : Type} {l : List α} {i : Nat} {x : α} (f : α → β) (h : l[i]? = some x) : (l.map f).take (i + 1) = (l.map f).take i ++ [f x] := take_more (by rw [List.getElem?_map, h]; rfl)
theorem small100 {n : Nat} (h : n ≤ 1000) : n < sizeLine := small1000 h
theorem cells_snoc {H : Hp} {vs : List V} {cs : List Cell} {L : Addr} {t : Addr} {c : Cell} {o : HO} (h : Cells H vs cs) (hL : H L = some o) (ho : ∀ xs, o ≠ .tup xs) (ht : H t = some (.tup [.int c.1, .int c.2])) (ws : List V) : Cells (upd H L (.lst ws)) (vs ++ [.ref t]) (cs ++ [c]) :=
  paired_app (h.upd hL ho) (.cons ⟨t, rfl, by rw [upd_ne (ne_of ht hL fun z => ho _ z.symm)]; exact ht⟩ .nil)
theorem lst_ntup (vs : List V) : ∀ xs, HO.lst vs ≠ .tup xs := fun _ z => nomatch z
theorem dT_ntup (vs : List (List Key × V)) : ∀ xs, HO.dT vs ≠ .tup xs := fun _ z => nomatch z
/-- a list that was new ahead is changed: what stood stands -/
theorem same_set {H H1 : Hp} {L : Addr} {o : HO} (s : Same H H1) (n : H L = none) : Same H (upd H1 L o) := fun b u e => by rw [upd_ne (ne_of_none e n)]; exact s b u e

/-! ### promises -/
/-- a new list of these cells is handed back, nothing that stood is changed -/
def NewCells (H : Hp) (cs : List Cell) (Q : VK) : Prop := ∀ l vs H', Same H H' → H l = none → H' l = some (.lst vs) → Cells H' vs cs → Q (.ref l) H'
/-- some value, nothing that stood is changed -/
def Keep (H : Hp) (v : V) (Q : VK) : Prop := ∀ H', Same H H' → Q v H'
def Hand (h : Int) : Prop := h = 1 ∨ h = 2
instance (h : Int) : Decidable (Hand h) := by unfold Hand; infer_instance
def Size (r c : Int) : Prop := 1 ≤ r ∧ r ≤ 10 ∧ 1 ≤ c ∧ c ≤ 10
abbrev setD (H : Hp) (d : Addr) (kv : Own) : Hp := upd H d (.dT (dk V.int kv))
theorem BoardAt.set {D : Ad} {H : Hp} {b d : Addr} {R C : Int} {kv kv' : Own} (h : BoardAt D H b d R C kv) (k : BOk R C kv') : BoardAt D (setD H d kv') b d R C kv' := by
  obtain ⟨⟨dx, h1⟩, h2, h3⟩ := id h
  exact ⟨⟨dx, by unfold setD; rw [upd_ne h.ne]; exact h1⟩, upd_same, k⟩
def sp_see_hand (_ : PySem.W.Frag) (D : Ad) : Sp := fun vs H Q E => ∃ h : Int, vs = [.int h] ∧ (Hand h → Q .non H) ∧ (¬ Hand h → E (.ref D.eNoHand) none H)
def sp_B_init (_ : PySem.W.Frag) (D : Ad) : Sp := fun vs H Q E => ∃ (p dx : Addr) (r c : Int), vs = [.ref p, .int r, .int c] ∧ H p = some (.ins D.C dx []) ∧ (¬ Size r c → E (.ref D.eNoBoard) none H) ∧
  (Size r c → ∀ d H', H d = none → BoardAt D H' p d r c [] → (∀ b o, H b = some o → b ≠ p → H' b = some o) → Q .non H')
def sp_B_rows (_ : PySem.W.Frag) (D : Ad) : Sp := fun vs H Q _ => ∃ b d R C kv, vs = [.ref b] ∧ BoardAt D H b d R C kv ∧ Q (.int R) H
def sp_B_columns (_ : PySem.W.Frag) (D : Ad) : Sp := fun vs H Q _ => ∃ b d R C kv, vs = [.ref b] ∧ BoardAt D H b d R C kv ∧ Q (.int C) H
def sp_B_has (_ : PySem.W.Frag) (D : Ad) : Sp := fun vs H Q _ => ∃ b d R C kv v c, vs = [.ref b, v] ∧ BoardAt D H b d R C kv ∧ PairAt H v c ∧ Q (.bl (decide (B R C c))) H
def sp_B_see_cell (_ : PySem.W.Frag) (D : Ad) : Sp := fun vs H Q E => ∃ b d R C kv v c, vs = [.ref b, v] ∧ BoardAt D H b d R C kv ∧ PairAt H v c ∧ (B R C c → Q .non H) ∧ (¬ B R C c → E (.ref D.eNoCell) none H)
def sp_B_put (_ : PySem.W.Frag) (D : Ad) : Sp := fun vs H Q E => ∃ b d R C kv v c h, vs = [.ref b, v, .int h] ∧ BoardAt D H b d R C kv ∧ PairAt H v c ∧ (¬ B R C c → E (.ref D.eNoCell) none H) ∧ (B R C c → ¬ Hand h → E (.ref D.eNoHand) none H) ∧
  (B R C c → Hand h → lk kv c ≠ none → E (.ref D.eCellTaken) none H) ∧ (B R C c → Hand h → lk kv c = none → Q .non (setD H d (kv ++ [(c, h)])))
def sp_B_lift (_ : PySem.W.Frag) (D : Ad) : Sp := fun vs H Q E => ∃ b d R C kv v c, vs = [.ref b, v] ∧ BoardAt D H b d R C kv ∧ PairAt H v c ∧ (¬ B R C c → E (.ref D.eNoCell) none H) ∧
  (B R C c → lk kv c = none → E (.ref D.eCellEmpty) none H) ∧ (B R C c → lk kv c ≠ none → Q .non (setD H d (drop kv c)))
def sp_B_owner (_ : PySem.W.Frag) (D : Ad) : Sp := fun vs H Q E => ∃ b d R C kv v c, vs = [.ref b, v] ∧ BoardAt D H b d R C kv ∧ PairAt H v c ∧ (¬ B R C c → E (.ref D.eNoCell) none H) ∧ (B R C c → Q (.int (ow kv c)) H)
def sp_B_near (_ : PySem.W.Frag) (D : Ad) : Sp := fun vs H Q E => ∃ b d R C kv v c, vs = [.ref b, v] ∧ BoardAt D H b d R C kv ∧ PairAt H v c ∧ (¬ B R C c → E (.ref D.eNoCell) none H) ∧ (B R C c → NewCells H (near R C c) Q)
def sp_B_empties (_ : PySem.W.Frag) (D : Ad) : Sp := fun vs H Q _ => ∃ b d R C kv, vs = [.ref b] ∧ BoardAt D H b d R C kv ∧ NewCells H (empt R C kv) Q
def sp_cells_of (_ : PySem.W.Frag) (D : Ad) : Sp := fun vs H Q _ => ∃ b d R C kv, vs = [.ref b] ∧ BoardAt D H b d R C kv ∧ NewCells H (cells R C) Q
/-- AROUND as the top has made it -/
structure AroundOk (K : PySem.W.Frag) (mg : Str → Option Value) (D : Ad) : Prop where
  g : mg "AROUND" = some (.ref D.aAROUND)
  t : ∃ ts : List Addr, (∀ H, SqT K H D.aAROUND (ts.map V.ref)) ∧ Paired (fun t (s : Cell) => ∀ H, SqT K H t [.int s.1, .int s.2]) ts steps
theorem sqT_of {K : PySem.W.Frag} {H : Hp} {a : Addr} {dd : Option Addr} {its : Array Value} {n : Nat} {sl : Array (Option Value)} {xs : List V} (h : K.lookup a = some ⟨.type "tuple", dd, .seq its n, sl⟩) (z : its.size ≤ sizeLine) (v : Vals xs its.toList) : SqT K H a xs :=
  .inr ⟨_, its, n, h, rfl, rfl, z, v⟩

/-! ### promises of the laws' own helpers -/
def item (ns : List Int) (k : Int) : Int := ns.getD k.toNat 0
def sp_law_cell_at (K : PySem.W.Frag) (_ : Ad) : Sp := fun vs H Q _ => ∃ (a : Addr) (ns : List Int) (k : Int), vs = [.ref a, .int k] ∧ SqL K H a (ns.map V.int) ∧ 0 ≤ k ∧ Q (.int (item ns k)) H
def sp_law_whole (_ : PySem.W.Frag) (_ : Ad) : Sp := fun vs H Q _ => ∃ i : Int, vs = [.int i] ∧ Q (.bl true) H
def sp_law_near (_ : PySem.W.Frag) (_ : Ad) : Sp := fun vs H Q _ => ∃ (R C : Int) (v : V) (c : Cell), vs = [.int R, .int C, v] ∧ PairAt H v c ∧ NewCells H (near R C c) Q
def sp_law_is_cells (_ : PySem.W.Frag) (_ : Ad) : Sp := fun vs H Q _ => ∃ (l : Addr) (us : List V) (cs : List Cell) (R C : Int), vs = [.ref l, .int R, .int C] ∧ H l = some (.lst us) ∧ Cells H us cs ∧ (∀ c ∈ cs, B R C c) ∧ Q (.bl true) H
def sp_law (K : PySem.W.Frag) (_ : Ad) : Sp := fun vs H Q _ => ∃ (a : Addr) (ns : List Int), vs = [.ref a] ∧ SqL K H a (ns.map V.int) ∧ ns.length ≤ 63 ∧ ∀ H', Q (.bl true) H'
/-- isinstance(e, c), e the exception that the suite holds, of whatever class -/
theorem call_isX {X : Cx} {a : Addr} {cls : Value} {d : Option Addr} {oe : Obj} {pn : List (Addr × Obj)} (K : PySem.W.Frag) (hz : Zc cls d oe) (hf : ∃ vs, oe.data = .fields vs) (hK : X.K = K := by rfl) :
    CallR (X.suite a ((a, oe) :: pn)) (.builtin "isinstance") (fun xs H Q => ∃ D, cls = .ref D ∧ d = none ∧ ExcC K D ∧ rIsE K D a xs H Q) := by
  subst hK
  intro pins s σ H xs us Q I r h
  obtain ⟨D, rfl, rfl, hc, q⟩ := h
  exact call_isE hc hz hf pins s σ H xs us Q I r q
section
variable {K : PySem.W.Frag} {C E : Addr}
theorem kit_yes : PySem.W.kitOne K (.ref E) (.ref E) = some true := by
  unfold PySem.W.kitOne
  rw [if_pos (beq_self_eq_true _)]
theorem cls_cond (o : PySem.W.isClsIn K C = true) (t : PySem.W.typeIn K (.ref C) = some (.type "type")) : ((PySem.W.clsIn K C).isSome && PySem.W.typeIn K (.ref C) == some (.type "type")) = true := by
  rw [show (PySem.W.clsIn K C).isSome = true from o, t]
  simp
theorem kit_no (o : PySem.W.isClsIn K C = true) (t : PySem.W.typeIn K (.ref C) = some (.type "type")) (u : PySem.W.subIn K (.ref E) (.ref C) = some false) (self : PySem.W.subIn K (.ref E) (.ref E) = some true) : PySem.W.kitOne K (.ref E) (.ref C) = some false := by
  have ne : E ≠ C := fun z => by rw [z] at u self; rw [self] at u; cases u
  unfold PySem.W.kitOne
  rw [if_neg (by simp [ne])]
  show (if _ then PySem.W.subIn K (.ref E) (.ref C) else none) = _
  rw [if_pos (cls_cond o t)]
  exact u
theorem kit_ve (u : PySem.W.subIn K (.ref E) (.type "ValueError") = some true) : PySem.W.kitOne K (.ref E) (.type "ValueError") = some true := by
  unfold PySem.W.kitOne
  rw [if_neg (by simp)]
  show (if PySem.W.kitMeta "ValueError" = true then PySem.W.subIn K (.ref E) (.type "ValueError") else none) = _
  rw [if_pos (by decide +kernel)]
  exact u
theorem exm_yes (b : PySem.W.subIn K (.ref C) (.type "BaseException") = some true) (o : PySem.W.isClsIn K C = true) (t : PySem.W.typeIn K (.ref C) = some (.type "type")) (u : PySem.W.subIn K (.ref E) (.ref C) = some true) : PySem.W.exmOne K (.ref E) (.ref C) = some true := by
  unfold PySem.W.exmOne
  rw [if_pos (by rw [b]; simp)]
  show (if _ then PySem.W.subIn K (.ref E) (.ref C) else none) = _
  rw [if_pos (cls_cond o t)]
  exact u
end
/-- d.pop(k), the keys tuples, k there -/
def rPop1T : V → List V → Hp → VK → Prop := fun x xs H Q => ∃ (a : Addr) (kvs : List (List L2.Key × V)) (k : List L2.Key) (b : Addr) (v : V), x = .ref a ∧ xs = [.ref b] ∧ H a = some (.dT kvs) ∧ H b = some (.tup (k.map kV)) ∧ valV kvs k = some v ∧ Q v (upd H a (.dT (dropK kvs k)))
theorem mt_pop1T {X : Cx} (hu : X.A.units + 1 < cLine) : MtR X "dict.pop" rPop1T := by
  intro pins s σ H x xs v us Q I rx rxs h
  obtain ⟨a, kvs, k, b, v0, rfl, rfl, ha, hb, hv, q⟩ := h
  cases rx
  obtain ⟨u1, rfl, r1⟩ := vals1 rxs
  cases r1
  obtain ⟨z, hd, xs', rel, dd⟩ := dt_of I.hok ha
  have hz : xs'.length ≤ sizeLine := by rw [← Paired.length rel]; exact z
  obtain ⟨p, hp, rp⟩ : ∃ p, atKey xs' k = some p ∧ RelV v0 p.2 := by
    have r := rel.val k
    rw [hv] at r
    cases e : atKey xs' k with
    | none =>
      rw [e] at r
      exact (show False from r).elim
    | some p =>
      rw [e] at r
      exact ⟨p, rfl, r⟩
  refine call_pop_heap (more := []) (.inl rfl) (PySem.F.args_dict_pop_2 _ _) (knd := tupleKind (mixKind X.prog X.w)) (tupleKind_room_in1 hu) (key_of I.hok hb) hd dd hp (fun h' dd' hs => ?_) hz
  obtain ⟨o, es, ep, hq, h2, h3, h4, _, h5⟩ := dd'
  have I2 : Inv X pins σ (upd H a (.dT (dropK kvs k))) { s with heap := h', toks := s.toks + (tupleKind (mixKind X.prog X.w)).draws k } :=
    d_write I (by rw [ha]; exact True.intro) hs ⟨o, hq⟩ ⟨Nat.le_trans (dropK_le kvs k) z, hd, _, (DX.KT_drop k rel).keeps (fun c ys ec => (by rw [upd_ne (ne_of ec ha (fun z => nomatch z))]; exact ec)), o, es, ep, hq, h2, h3, h4, h5⟩
  exact ⟨v0, _, I2, rp, q⟩
end SC
namespace SC
open PySem PyProof.Rows L2

/-! ### cells as data: ==, in -/
def cdat (c : Cell) : PyData := .tuple [.int c.1, .int c.2]
def clist (cs : List Cell) : PyData := .list (cs.map cdat)
theorem dp_pair {K : PySem.W.Frag} {H : Hp} {v : V} {c : Cell} (h : PairAt H v c) : Dp K H v (cdat c) := by
  obtain ⟨t, rfl, ht⟩ := h
  exact .tup (SqT.of ht) (.cons (.int _) (.cons (.int _) .nil))
theorem dp_all {K : PySem.W.Frag} {H : Hp} : ∀ {vs : List V} {cs : List Cell}, Cells H vs cs → DpAll K H vs (cs.map cdat)
  | _, _, .nil => .nil
  | _, _, .cons h t => .cons (dp_pair h) (dp_all t)
theorem dp_cells {K : PySem.W.Frag} {H : Hp} {l : Addr} {vs : List V} {cs : List Cell} (hl : SqL K H l vs) (h : Cells H vs cs) : Dp K H (.ref l) (clist cs) := .lst hl (dp_all h)
theorem can_cd (c : Cell) : (cdat c).canLay0 = true := by simp [cdat, PyData.canLay0, PyData.canLayAll0]
theorem can_cl : ∀ cs : List Cell, PyData.canLayAll0 (cs.map cdat) = true
  | [] => by simp [PyData.canLayAll0]
  | c :: cs => by rw [List.map_cons, PyData.canLayAll0, can_cd, can_cl cs]; rfl
theorem dep_cd (c : Cell) : (cdat c).depth = 1 := by simp [cdat, PyData.depth, PyData.depthAll]
theorem dep_cl : ∀ cs : List Cell, PyData.depthAll (cs.map cdat) ≤ 1
  | [] => by simp [PyData.depthAll]
  | c :: cs => by
    rw [List.map_cons, PyData.depthAll, dep_cd]
    have := dep_cl cs
    omega
theorem sh_cd (c : Cell) : SeqAt.shaped (cdat c) = true := by
  unfold SeqAt.shaped
  rw [can_cd, dep_cd]
  rfl
theorem sh_cl (cs : List Cell) : SeqAt.shaped (clist cs) = true := by
  unfold SeqAt.shaped clist
  rw [PyData.canLay0, can_cl, PyData.depth]
  have := dep_cl cs
  rw [decide_eq_true (by omega : PyData.depthAll (cs.map cdat) + 1 ≤ 64)]
  rfl
theorem eqv_cd (a b : Cell) : PyData.eqv (cdat a) (cdat b) = decide (a = b) := by
  obtain ⟨i, j⟩ := a
  obtain ⟨k, l⟩ := b
  simp only [cdat, PyData.eqv, PyData.eqvAll, Bool.and_true, Prod.mk.injEq]
  rw [Bool.eq_iff_iff]
  simp
theorem eqv_all : ∀ xs ys : List Cell, PyData.eqvAll (xs.map cdat) (ys.map cdat) = decide (xs = ys)
  | [], [] => by simp [PyData.eqvAll]
  | [], y :: ys => by simp [PyData.eqvAll]
  | x :: xs, [] => by simp [PyData.eqvAll]
  | x :: xs, y :: ys => by
    rw [List.map_cons, List.map_cons, PyData.eqvAll, eqv_cd, eqv_all xs ys]
    rw [Bool.eq_iff_iff]
    simp
theorem eqv_cl (xs ys : List Cell) : PyData.eqv (clist xs) (clist ys) = decide (xs = ys) := by
  unfold clist
  rw [PyData.eqv, eqv_all]
theorem any_cl (xs : List Cell) (c : Cell) : ((xs.map cdat).any fun z => PyData.eqv z (cdat c)) = decide (c ∈ xs) := by
  rw [List.any_map]
  induction xs with
  | nil => simp
  | cons x xs ih =>
    rw [List.any_cons, ih, Function.comp, eqv_cd]
    rw [Bool.eq_iff_iff]
    simp only [Bool.or_eq_true, decide_eq_true_eq, List.mem_cons]
    constructor
    · rintro (h | h)
      · exact .inl h.symm
      · exact .inr h
    · rintro (h | h)
      · exact .inl h.symm
      · exact .inr h
/-! ### lists of bools -/
def blist (bs : List Bool) : PyData := .list (bs.map .bool)
theorem dp_bools {K : PySem.W.Frag} {H : Hp} {l : Addr} {bs : List Bool} (hl : SqL K H l (bs.map V.bl)) : Dp K H (.ref l) (blist bs) := by
  refine .lst hl ?_
  clear hl
  induction bs with
  | nil => exact .nil
  | cons b bs ih => exact .cons (.bl b) ih
theorem sh_bl (bs : List Bool) : SeqAt.shaped (blist bs) = true := by
  unfold SeqAt.shaped blist
  have h1 : PyData.canLayAll0 (bs.map .bool) = true := by
    induction bs with
    | nil => simp [PyData.canLayAll0]
    | cons b bs ih => rw [List.map_cons, PyData.canLayAll0, ih]; rfl
  have h2 : PyData.depthAll (bs.map .bool) = 0 := by
    clear h1
    induction bs with
    | nil => simp [PyData.depthAll]
    | cons b bs ih => rw [List.map_cons, PyData.depthAll, ih]; rfl
  rw [PyData.canLay0, h1, PyData.depth, h2]
  rfl
theorem eqv_bl (xs ys : List Bool) : PyData.eqv (blist xs) (blist ys) = decide (xs = ys) := by
  unfold blist
  rw [PyData.eqv]
  induction xs generalizing ys with
  | nil => cases ys <;> simp [PyData.eqvAll]
  | cons x xs ih =>
    cases ys with
    | nil => simp [PyData.eqvAll]
    | cons y ys =>
      rw [List.map_cons, List.map_cons, PyData.eqvAll, ih, PyData.eqv]
      rw [Bool.eq_iff_iff]
      simp
/-! ### lists of ints -/
def ilist (ns : List Int) : PyData := .list (ns.map .int)
theorem dp_ints {K : PySem.W.Frag} {H : Hp} {l : Addr} {ns : List Int} (hl : SqL K H l (ns.map V.int)) : Dp K H (.ref l) (ilist ns) := by
  refine .lst hl ?_
  clear hl
  induction ns with
  | nil => exact .nil
  | cons b bs ih => exact .cons (.int b) ih
theorem sh_il (bs : List Int) : SeqAt.shaped (ilist bs) = true := by
  unfold SeqAt.shaped ilist
  have h1 : PyData.canLayAll0 (bs.map .int) = true := by
    induction bs with
    | nil => simp [PyData.canLayAll0]
    | cons b bs ih => rw [List.map_cons, PyData.canLayAll0, ih]; rfl
  have h2 : PyData.depthAll (bs.map .int) = 0 := by
    clear h1
    induction bs with
    | nil => simp [PyData.depthAll]
    | cons b bs ih => rw [List.map_cons, PyData.depthAll, ih]; rfl
  rw [PyData.canLay0, h1, PyData.depth, h2]
  rfl
theorem eqv_il (xs ys : List Int) : PyData.eqv (ilist xs) (ilist ys) = decide (xs = ys) := by
  unfold ilist
  rw [PyData.eqv]
  induction xs generalizing ys with
  | nil => cases ys <;> simp [PyData.eqvAll]
  | cons x xs ih =>
    cases ys with
    | nil => simp [PyData.eqvAll]
    | cons y ys =>
      rw [List.map_cons, List.map_cons, PyData.eqvAll, ih, PyData.eqv]
      rw [Bool.eq_iff_iff]
      simp
def sp_law_near_right (_ : PySem.W.Frag) (D : Ad) : Sp := fun vs H Q _ => ∃ b d R C kv v c, vs = [.ref b, .int R, .int C, v] ∧ BoardAt D H b d R C kv ∧ PairAt H v c ∧ B R C c ∧ Keep H (.bl true) Q
def sp_law_no_cell (_ : PySem.W.Frag) (D : Ad) : Sp := fun vs H Q _ => ∃ b d R C kv v c, vs = [.ref b, v] ∧ BoardAt D H b d R C kv ∧ PairAt H v c ∧ ¬ B R C c ∧ Keep H (.bl true) Q
theorem cells_at {H : Hp} {vs : List V} {cs : List Cell} {z : Int} (h : Cells H vs cs) (h0 : 0 ≤ z) (h1 : z < cs.length) : ∃ v c, cs[z.toNat]? = some c ∧ atI vs z = some v ∧ PairAt H v c := by
  have hl : z.toNat < cs.length := by omega
  obtain ⟨v, hv, p⟩ := paired_get' h (List.getElem?_eq_getElem hl)
  exact ⟨v, _, List.getElem?_eq_getElem hl, at_of (j := z.toNat) (by omega) hv, p⟩
/-- a new instance of Board -/
theorem made {H H1 : Hp} {x dx C : Addr} (nx : H x = Option.none) (nd : H dx = Option.none) (k : ∀ b o, (upd (upd H dx (.own x)) x (.ins C dx [])) b = some o → b ≠ x → H1 b = some o) : Same H H1 := Same.made nx nd k
theorem newO {H : Hp} {p : Addr} {o : HO} (n : H p = none) : Same H (upd H p o) ∧ upd H p o p = some o := ⟨same_upd n, upd_same⟩
theorem ne_new {H H1 : Hp} {a L : Addr} {o : HO} (h : H a = some o) (s : Same H H1) (n : H1 L = none) : a ≠ L := ne_of_none (s _ _ h) n
end SC
namespace SC
open PySem PyProof.Rows L2

/-! ### chains, in plain Lean -/
/-- on the first side of hand h -/
def Fst (h : Int) (c : Cell) : Prop := if h = 1 then c.2 = 0 else c.1 = 0
/-- on the last side of hand h -/
def Lst (R C h : Int) (c : Cell) : Prop := if h = 1 then c.2 = C - 1 else c.1 = R - 1
instance (h : Int) (c : Cell) : Decidable (Fst h c) := by unfold Fst; infer_instance
instance (R C h : Int) (c : Cell) : Decidable (Lst R C h c) := by unfold Lst; infer_instance
/-- hand h has joined through S -/
def Joined (R C h : Int) (S : Cell → Prop) : Prop := ∃ a d, Fst h a ∧ Lst R C h d ∧ Linked (In R C S) a d
theorem joined1 {R C : Int} {S : Cell → Prop} : Joined R C 1 S ↔ LR R C S := Iff.rfl
theorem joined2 {R C : Int} {S : Cell → Prop} : Joined R C 2 S ↔ TB R C S := Iff.rfl
theorem Joined.mono {R C h : Int} {S U : Cell → Prop} (j : Joined R C h S) (k : ∀ c, B R C c → S c → U c) : Joined R C h U := by
  obtain ⟨a, d, h1, h2, l⟩ := j
  exact ⟨a, d, h1, h2, l.mono fun c z => ⟨z.1, k c z.1 z.2⟩⟩
theorem joined_congr {R C h : Int} {S U : Cell → Prop} (k : ∀ c, B R C c → (S c ↔ U c)) : Joined R C h S ↔ Joined R C h U :=
  ⟨fun j => j.mono fun c b s => (k c b).mp s, fun j => j.mono fun c b s => (k c b).mpr s⟩
/-- just one of the hands joins -/
theorem hexJ {R C h : Int} (hR : 1 ≤ R) (hC : 1 ≤ C) (hh : Hand h) (S : Cell → Prop) : (Joined R C h S ∨ Joined R C (3 - h) fun c => ¬ S c) ∧ ¬ (Joined R C h S ∧ Joined R C (3 - h) fun c => ¬ S c) := by
  rcases hh with rfl | rfl
  · exact hex hR hC S
  · have e := hex hR hC fun c => ¬ S c
    have q : TB R C S ↔ TB R C fun c => ¬ ¬ S c := joined_congr (h := 2) fun c _ => ⟨fun s n => n s, fun s => Classical.not_not.mp s⟩
    refine ⟨e.1.elim (fun z => .inr z) fun z => .inl (q.mpr z), fun z => e.2 ⟨z.2, q.mp z.1⟩⟩
def AdjL (cs : List Cell) : Prop := ∀ i a b, cs[i]? = some a → cs[i + 1]? = some b → Adj a b
/-- cs is a chain of hand h through S -/
structure IsChain (R C h : Int) (S : Cell → Prop) (cs : List Cell) : Prop where
  nd : cs.Nodup
  ok : ∀ c ∈ cs, B R C c ∧ S c
  adj : AdjL cs
  fst : ∃ a, cs[0]? = some a ∧ Fst h a
  lst : ∃ a, cs[cs.length - 1]? = some a ∧ Lst R C h a
theorem IsChain.mono {R C h : Int} {S U : Cell → Prop} {cs : List Cell} (j : IsChain R C h S cs) (k : ∀ c ∈ cs, S c → U c) : IsChain R C h U cs :=
  ⟨j.nd, fun c m => ⟨(j.ok c m).1, k c m (j.ok c m).2⟩, j.adj, j.fst, j.lst⟩
theorem IsChain.mono' {R C h : Int} {S U : Cell → Prop} {cs : List Cell} (j : IsChain R C h S cs) (k : ∀ c, B R C c → (S c ↔ U c)) : IsChain R C h U cs :=
  ⟨j.nd, fun c m => ⟨(j.ok c m).1, (k c (j.ok c m).1).mp (j.ok c m).2⟩, j.adj, j.fst, j.lst⟩
theorem linked_list {P : Cell → Prop} {cs : List Cell} (ok : ∀ c ∈ cs, P c) (adj : AdjL cs) {a : Cell} (h0 : cs[0]? = some a) : ∀ (i : Nat) (b : Cell), cs[i]? = some b → Linked P a b := by
  intro i
  induction i with
  | zero =>
    intro b hb
    rw [h0] at hb
    cases hb
    exact .refl (ok _ (List.mem_of_getElem? h0))
  | succ i ih =>
    intro b hb
    have hl : i < cs.length := by
      have := (List.getElem?_eq_some_iff.mp hb).1
      omega
    exact .snoc (ih _ (List.getElem?_eq_getElem hl)) (adj i _ _ (List.getElem?_eq_getElem hl) hb) (ok _ (List.mem_of_getElem? hb))
theorem IsChain.joined {R C h : Int} {S : Cell → Prop} {cs : List Cell} (j : IsChain R C h S cs) : Joined R C h S := by
  obtain ⟨a, ha, fa⟩ := j.fst
  obtain ⟨d, hd, ld⟩ := j.lst
  exact ⟨a, d, fa, ld, linked_list j.ok j.adj ha _ d hd⟩
theorem IsChain.pos {R C h : Int} {S : Cell → Prop} {cs : List Cell} (j : IsChain R C h S cs) : 0 < cs.length := by
  obtain ⟨a, ha, fa⟩ := j.fst
  exact (List.getElem?_eq_some_iff.mp ha).1
theorem IsChain.len {R C h : Int} {S : Cell → Prop} {cs : List Cell} (j : IsChain R C h S cs) (hR : R ≤ 10) (hC : C ≤ 10) : cs.length ≤ 100 := fewc hR hC j.nd fun c m => (j.ok c m).1
theorem at_left {α : Type} {l m : List α} {i : Nat} {x : α} (h : l[i]? = some x) : (l ++ m)[i]? = some x := by
  rw [List.getElem?_append_left (List.getElem?_eq_some_iff.mp h).1]
  exact h
theorem at_snoc {α : Type} {l : List α} {a x : α} {i : Nat} (h : (l ++ [a])[i]? = some x) : l[i]? = some x ∨ (i = l.length ∧ x = a) := by
  by_cases hl : i < l.length
  · rw [List.getElem?_append_left hl] at h
    exact .inl h
  · rw [List.getElem?_append_right (by omega)] at h
    have e : i - l.length = 0 := by
      have := (List.getElem?_eq_some_iff.mp h).1
      rw [List.length_singleton] at this
      omega
    rw [e] at h
    exact .inr ⟨by omega, (Option.some.inj h).symm⟩
theorem adj_snoc {l : List Cell} {p c : Cell} (h : AdjL l) (hp : l[l.length - 1]? = some p) (e : Adj p c) : AdjL (l ++ [c]) := by
  intro i a b ha hb
  rcases at_snoc hb with hb | ⟨hi, rfl⟩
  · have hi := (List.getElem?_eq_some_iff.mp hb).1
    rw [List.getElem?_append_left (by omega)] at ha
    exact h i a b ha hb
  · rw [List.getElem?_append_left (by omega)] at ha
    rw [show l.length - 1 = i by omega, ha] at hp
    cases hp
    exact e

/-! ### trees of ways back -/
abbrev Back := List (Cell × Option Cell)
/-- back leads from every cell to a first one -/
structure Ftree (P F : Cell → Prop) (kv : Back) : Prop where
  nd : (kv.map (·.1)).Nodup
  rk : ∃ rank : Cell → Nat, ∀ (c : Cell) (o : Option Cell), lk kv c = some o → P c ∧ rank c < kv.length ∧ (o = none → F c) ∧ ∀ p, o = some p → (∃ q, lk kv p = some q) ∧ rank p < rank c ∧ Adj p c
theorem Ftree.nil {P F : Cell → Prop} : Ftree P F [] := ⟨List.nodup_nil, fun _ => 0, fun _ _ h => by rw [lk_nil] at h; cases h⟩
theorem Ftree.add {P F : Cell → Prop} {kv : Back} (t : Ftree P F kv) {a : Cell} {o : Option Cell} (n : lk kv a = none) (pa : P a) (h0 : o = none → F a) (h1 : ∀ p, o = some p → (∃ q, lk kv p = some q) ∧ Adj p a) : Ftree P F (kv ++ [(a, o)]) := by
  obtain ⟨nd, rank, rk⟩ := t
  refine ⟨snoc_nodup nd n, fun c => if c = a then kv.length else rank c, fun c o' h => ?_⟩
  rw [lk_snoc _ _ _ _ n] at h
  rw [List.length_append, List.length_singleton]
  dsimp only
  by_cases e : a = c
  · subst e
    rw [if_pos rfl] at h
    cases h
    refine ⟨pa, by rw [if_pos rfl]; omega, h0, fun p hp => ?_⟩
    obtain ⟨⟨q, hq⟩, ad⟩ := h1 p hp
    have ne : p ≠ a := fun z => by rw [z, n] at hq; cases hq
    refine ⟨⟨q, by rw [lk_snoc _ _ _ _ n, if_neg ne.symm]; exact hq⟩, ?_, ad⟩
    rw [if_neg ne, if_pos rfl]
    exact (rk _ _ hq).2.1
  · rw [if_neg e] at h
    obtain ⟨k1, k2, k3, k4⟩ := rk c o' h
    rw [if_neg fun z => e z.symm]
    refine ⟨k1, by omega, k3, fun p hp => ?_⟩
    obtain ⟨⟨q, hq⟩, r, ad⟩ := k4 p hp
    have ne : a ≠ p := fun z => by rw [← z, n] at hq; cases hq
    refine ⟨⟨q, by rw [lk_snoc _ _ _ _ n, if_neg ne]; exact hq⟩, ?_, ad⟩
    rw [if_neg ne.symm]
    exact r
/-- the way by which c was come to -/
inductive Way (kv : Back) : Cell → List Cell → Prop
  | root {c : Cell} : lk kv c = some none → Way kv c [c]
  | step {c p : Cell} {l : List Cell} : lk kv c = some (some p) → Way kv p l → Way kv c (l ++ [c])
theorem Way.last {kv : Back} {c : Cell} {l : List Cell} (w : Way kv c l) : l[l.length - 1]? = some c := by
  cases w with
  | root _ => rfl
  | step _ _ => simp
theorem Way.mem {kv : Back} {c : Cell} {l : List Cell} (w : Way kv c l) : ∀ x ∈ l, ∃ o, lk kv x = some o := by
  induction w with
  | root h => intro x m; rw [List.mem_singleton.mp m]; exact ⟨_, h⟩
  | step h _ ih =>
    intro x m
    rcases List.mem_append.mp m with m | m
    · exact ih x m
    · rw [List.mem_singleton.mp m]; exact ⟨_, h⟩
theorem Way.pos {kv : Back} {c : Cell} {l : List Cell} (w : Way kv c l) : 0 < l.length := by
  cases w with
  | root _ => exact Nat.one_pos
  | step _ _ => simp
theorem Way.good {P F : Cell → Prop} {kv : Back} (t : Ftree P F kv) {c : Cell} {l : List Cell} (w : Way kv c l) : l.Nodup ∧ AdjL l ∧ (∀ x ∈ l, P x) ∧ ∃ a, l[0]? = some a ∧ F a := by
  obtain ⟨nd, rank, rk⟩ := t
  suffices h : l.Nodup ∧ AdjL l ∧ (∃ a, l[0]? = some a ∧ F a) ∧ ∀ x ∈ l, rank x ≤ rank c from
    ⟨h.1, h.2.1, fun x m => (rk x _ (w.mem x m).choose_spec).1, h.2.2.1⟩
  induction w with
  | root h =>
    refine ⟨List.nodup_cons.mpr ⟨by simp, List.nodup_nil⟩, fun i a b _ hb => by simp at hb, ⟨_, rfl, (rk _ _ h).2.2.1 rfl⟩, fun x m => by rw [List.mem_singleton.mp m]; exact Nat.le_refl _⟩
  | @step c p l h w ih =>
    obtain ⟨i1, i2, ⟨a, i3, i4⟩, i5⟩ := ih
    obtain ⟨_, r, ad⟩ := (rk _ _ h).2.2.2 p rfl
    refine ⟨nd_snoc i1 fun m => by have := i5 c m; omega, adj_snoc i2 w.last ad, ⟨a, at_left i3, i4⟩, fun x m => ?_⟩
    rcases List.mem_append.mp m with m | m
    · have := i5 x m; omega
    · rw [List.mem_singleton.mp m]; exact Nat.le_refl _
theorem Way.chain {R C h : Int} {S : Cell → Prop} {kv : Back} (t : Ftree (In R C S) (Fst h) kv) {c : Cell} {l : List Cell} (w : Way kv c l) (e : Lst R C h c) : IsChain R C h S l := by
  obtain ⟨h1, h2, h3, h4⟩ := w.good t
  exact ⟨h1, h3, h2, h4, c, w.last, e⟩
/-- a sum over the way: f grows by g at each step -/
theorem Way.sum {kv : Back} {f : Cell → Nat} {g : Cell → Bool} (h0 : ∀ c, lk kv c = some none → f c = if g c = true then 1 else 0) (h1 : ∀ c p, lk kv c = some (some p) → f c = f p + if g c = true then 1 else 0) {c : Cell} {l : List Cell} (w : Way kv c l) : (l.filter g).length = f c := by
  induction w with
  | @root c h =>
    rw [h0 c h]
    by_cases e : g c = true
    · rw [List.filter_cons_of_pos e, if_pos e]; rfl
    · rw [List.filter_cons_of_neg e, if_neg e]; rfl
  | @step c p l h w ih =>
    rw [List.filter_append, List.length_append, ih, h1 c p h]
    by_cases e : g c = true
    · rw [List.filter_cons_of_pos e, if_pos e]; rfl
    · rw [List.filter_cons_of_neg e, if_neg e]; rfl

/-! ### floods -/
/-- ks: cells come to from the first side, n of them done -/
structure Flood (P F : Cell → Prop) (ks : List Cell) (n : Nat) : Prop where
  nd : ks.Nodup
  ok : ∀ c ∈ ks, ∃ a, F a ∧ Linked P a c
  fst : ∀ c, P c → F c → c ∈ ks
  cl : ∀ i, i < n → ∀ c, ks[i]? = some c → ∀ b, Adj c b → P b → b ∈ ks
theorem Flood.all {P F : Cell → Prop} {ks : List Cell} (f : Flood P F ks ks.length) {a d : Cell} (fa : F a) (l : Linked P a d) : d ∈ ks :=
  Linked.ind (fun z => z ∈ ks) l (f.fst a l.left fa) fun c d _ pd e m => by
    obtain ⟨i, hi, e2⟩ := List.mem_iff_getElem.mp m
    exact f.cl i hi c (List.getElem?_eq_some_iff.mpr ⟨hi, e2⟩) d e pd
/-- the one at n is being done: its neighbours in ts have been seen -/
structure FloodAt (P F : Cell → Prop) (ks : List Cell) (n : Nat) (c : Cell) (ts : List Cell) : Prop where
  fl : Flood P F ks n
  at' : ks[n]? = some c
  cl : ∀ b ∈ ts, P b → b ∈ ks
theorem FloodAt.skip {P F : Cell → Prop} {ks ts : List Cell} {n : Nat} {c b : Cell} (f : FloodAt P F ks n c ts) (h : P b → b ∈ ks) : FloodAt P F ks n c (ts ++ [b]) :=
  ⟨f.fl, f.at', fun z m => (List.mem_append.mp m).elim (f.cl z) fun m => by rw [List.mem_singleton.mp m]; exact h⟩
theorem FloodAt.add {P F : Cell → Prop} {ks ts : List Cell} {n : Nat} {c b : Cell} (f : FloodAt P F ks n c ts) (n0 : b ∉ ks) (pb : P b) (e : Adj c b) : FloodAt P F (ks ++ [b]) n c (ts ++ [b]) := by
  have hn := (List.getElem?_eq_some_iff.mp f.at').1
  refine ⟨⟨nd_snoc f.fl.nd n0, fun z m => ?_, fun z pz fz => List.mem_append.mpr (.inl (f.fl.fst z pz fz)), fun i hi z hz d ad pd => ?_⟩, at_left f.at', fun z m pz => ?_⟩
  · rcases List.mem_append.mp m with m | m
    · exact f.fl.ok z m
    · rw [List.mem_singleton.mp m]
      obtain ⟨a, fa, l⟩ := f.fl.ok c (List.mem_of_getElem? f.at')
      exact ⟨a, fa, .snoc l e pb⟩
  · rw [List.getElem?_append_left (by omega)] at hz
    exact List.mem_append.mpr (.inl (f.fl.cl i hi z hz d ad pd))
  · rcases List.mem_append.mp m with m | m
    · exact List.mem_append.mpr (.inl (f.cl z m pz))
    · exact List.mem_append.mpr (.inr m)
theorem FloodAt.done {P F : Cell → Prop} {ks ts : List Cell} {n : Nat} {c : Cell} (f : FloodAt P F ks n c ts) (h : ∀ b, Adj c b → P b → b ∈ ts) : Flood P F ks (n + 1) :=
  ⟨f.fl.nd, f.fl.ok, f.fl.fst, fun i hi z hz b e pb => by
    by_cases q : i < n
    · exact f.fl.cl i q z hz b e pb
    · have : i = n := by omega
      subst this
      rw [f.at'] at hz
      cases hz
      exact f.cl b (h b e pb) pb⟩
theorem Flood.none {R C h : Int} {S : Cell → Prop} {ks : List Cell} (f : Flood (In R C S) (Fst h) ks ks.length) (k : ∀ c ∈ ks, ¬ Lst R C h c) : ¬ Joined R C h S := by
  rintro ⟨a, d, fa, ld, l⟩
  exact k d (f.all fa l) ld
end SC
namespace SC
open PySem PyProof.Rows L2

theorem szl {xs : List V} (h : Nat.ble xs.length 100 = true := by rfl) : xs.length ≤ sizeLine := Nat.le_of_lt (small100 (Nat.le_trans (Nat.le_of_ble_eq_true h) (by decide)))
/-! ### a dict of cells to cells or None -/
def OptAt (H : Hp) (v : V) : Option Cell → Prop
  | none => v = .non
  | some c => PairAt H v c
theorem OptAt.same {H H' : Hp} {v : V} {o : Option Cell} (h : OptAt H v o) (s : Same H H') : OptAt H' v o := by
  cases o with
  | none => exact h
  | some c => exact PairAt.same h s
theorem OptAt.upd {H : Hp} {v : V} {c : Option Cell} {a : Addr} {o o' : HO} (h : OptAt H v c) (ha : H a = some o) (hn : ∀ xs, o ≠ .tup xs) : OptAt (upd H a o') v c := by
  cases c with
  | none => exact h
  | some c => exact PairAt.upd h ha hn
theorem OptAt.non {H : Hp} {v : V} {o : Option Cell} (h : OptAt H v o) : decide (v = .non) = o.isNone := by
  cases o with
  | none => rw [show v = .non from h]; rfl
  | some c =>
    obtain ⟨t, e, _⟩ := h
    rw [e]
    rfl
abbrev BPair (H : Hp) (x : List Key × V) (y : Cell × Option Cell) : Prop := x.1 = key y.1 ∧ OptAt H x.2 y.2
abbrev BackRel (H : Hp) (bv : List (List Key × V)) (kv : Back) : Prop := Paired (BPair H) bv kv
theorem BackRel.same {H H' : Hp} {bv : List (List Key × V)} {kv : Back} (h : BackRel H bv kv) (s : Same H H') : BackRel H' bv kv := L2.Paired.mapP h fun _ _ p => ⟨p.1, p.2.same s⟩
theorem BackRel.upd {H : Hp} {bv : List (List Key × V)} {kv : Back} {a : Addr} {o o' : HO} (h : BackRel H bv kv) (ha : H a = some o) (hn : ∀ xs, o ≠ .tup xs) : BackRel (upd H a o') bv kv := L2.Paired.mapP h fun _ _ p => ⟨p.1, p.2.upd ha hn⟩
theorem back_val {H : Hp} {c : Cell} : ∀ {bv : List (List Key × V)} {kv : Back}, BackRel H bv kv → (lk kv c = none → valV bv (key c) = none) ∧ ∀ o, lk kv c = some o → ∃ v, valV bv (key c) = some v ∧ OptAt H v o
  | _, _, .nil => ⟨fun _ => rfl, fun o h => by rw [lk_nil] at h; cases h⟩
  | x :: bv, y :: kv, .cons p r => by
    have ih := back_val (c := c) r
    obtain ⟨p1, p2⟩ := p
    unfold valV at ih ⊢
    rw [List.find?_cons, lk_cons]
    by_cases e : y.1 = c
    · subst e
      rw [p1]
      simp only [decide_true, if_true]
      exact ⟨(fun h => nomatch h), fun o h => by cases h; exact ⟨_, rfl, p2⟩⟩
    · have e2 : ¬ x.1 = key c := fun z => e (key_inj (p1.symm.trans z))
      simp only [e2, decide_false, if_neg e]
      exact ih
theorem back_isSome {H : Hp} {c : Cell} {bv : List (List Key × V)} {kv : Back} (h : BackRel H bv kv) : (valV bv (key c)).isSome = (lk kv c).isSome := by
  cases e : lk kv c with
  | none => rw [(back_val h).1 e]; rfl
  | some o =>
    obtain ⟨v, hv, _⟩ := (back_val h).2 o e
    rw [hv]
    rfl
theorem back_put {H : Hp} {a : Cell} {v : V} {o : Option Cell} {bv : List (List Key × V)} {kv : Back} (h : BackRel H bv kv) (n : lk kv a = none) (hv : OptAt H v o) : BackRel H (putK bv (key a) v) (kv ++ [(a, o)]) := by
  rw [putK_new _ ((back_val h).1 n)]
  exact paired_app h (.cons ⟨rfl, hv⟩ .nil)
theorem back_len {H : Hp} {bv : List (List Key × V)} {kv : Back} (h : BackRel H bv kv) : bv.length = kv.length := paired_len h

/-! ### a dict of cells to True -/
def tag (cs : List Cell) : List (Cell × Bool) := cs.map fun c => (c, true)
/-- the dict at a holds just the cells cs -/
def Al (H : Hp) (a : Addr) (cs : List Cell) : Prop := H a = some (.dT (dk V.bl (tag cs)))
theorem tag_snoc (cs : List Cell) (c : Cell) : tag (cs ++ [c]) = tag cs ++ [(c, true)] := by
  unfold tag
  rw [List.map_append]
  rfl
theorem lk_tag (cs : List Cell) (c : Cell) : lk (tag cs) c = if c ∈ cs then some true else none := by
  unfold tag
  induction cs with
  | nil => rfl
  | cons x cs ih =>
    rw [List.map_cons, lk_cons, ih]
    by_cases e : x = c
    · subst e; simp
    · rw [if_neg e]
      have e' : ¬ c = x := fun z => e z.symm
      simp [List.mem_cons, e']
theorem tag_keys (cs : List Cell) : (tag cs).map (·.1) = cs := by
  unfold tag
  rw [List.map_map]
  exact List.map_id cs
theorem tag_len (cs : List Cell) : (dk V.bl (tag cs)).length = cs.length := by
  unfold dk tag
  rw [List.length_map, List.length_map]
theorem al_isSome (cs : List Cell) (c : Cell) : (valV (dk V.bl (tag cs)) (key c)).isSome = decide (c ∈ cs) := by
  rw [val_dk, lk_tag]
  by_cases e : c ∈ cs
  · rw [if_pos e, decide_eq_true e]; rfl
  · rw [if_neg e, decide_eq_false e]; rfl
theorem al_put {cs : List Cell} {c : Cell} (n : c ∉ cs) : putK (dk V.bl (tag cs)) (key c) (V.bl true) = dk V.bl (tag (cs ++ [c])) := by
  rw [tag_snoc]
  exact put_dk V.bl _ _ _ (by rw [lk_tag, if_neg n])
/-- a store of a cell that is there already -/
theorem al_has {cs : List Cell} {c : Cell} (m : c ∈ cs) : putK (dk V.bl (tag cs)) (key c) (V.bl true) = dk V.bl (tag cs) := by
  unfold putK
  have ha : ((dk V.bl (tag cs)).any fun kv => decide (kv.fst = key c)) = true := List.any_eq_true.mpr ⟨(key c, V.bl true), List.mem_map.mpr ⟨(c, true), List.mem_map.mpr ⟨c, m, rfl⟩, rfl⟩, decide_eq_true rfl⟩
  rw [if_pos ha]
  refine (List.map_congr_left fun kv hkv => ?_).trans (List.map_id _)
  obtain ⟨p, hp, rfl⟩ := List.mem_map.mp hkv
  obtain ⟨z, _, rfl⟩ := List.mem_map.mp hp
  by_cases e : key z = key c
  · rw [if_pos e]; rfl
  · rw [if_neg e]; rfl
/-- a new dict of just the cells for which p holds -/
def NewAl (H : Hp) (R C : Int) (p : Cell → Prop) (Q : VK) : Prop := ∀ l cs H', Same H H' → H l = none → Al H' l cs → cs.Nodup → (∀ c, c ∈ cs ↔ B R C c ∧ p c) → Q (.ref l) H'
theorem cellsN_nodup : ∀ R C : Nat, (cellsN R C).Nodup
  | 0, _ => List.nodup_nil
  | R + 1, C => by
    unfold cellsN
    rw [List.range_succ, List.flatMap_append]
    rw [show List.flatMap (fun (r : Nat) => (List.range C).map fun (c : Nat) => (((r : Nat) : Int), ((c : Nat) : Int))) [R] = (List.range C).map fun (c : Nat) => (((R : Nat) : Int), ((c : Nat) : Int)) by simp]
    refine List.nodup_append.mpr ⟨cellsN_nodup R C, ?_, ?_⟩
    · refine List.Pairwise.map _ (fun a b h e => h ?_) List.nodup_range
      injection e with _ e
      exact Int.ofNat.inj e
    · intro a ha b hb e
      subst e
      simp only [List.mem_flatMap, List.mem_range, List.mem_map] at ha
      obtain ⟨r, hr, k, _, e1⟩ := ha
      obtain ⟨k2, _, e2⟩ := List.mem_map.mp hb
      rw [← e2] at e1
      injection e1 with e1 _
      have := Int.ofNat.inj e1
      omega
theorem cells_nodup (R C : Int) : (cells R C).Nodup := cellsN_nodup _ _
/-- the one at i is not among those ahead of it -/
theorem not_taken {α : Type} {l : List α} (nd : l.Nodup) {i : Nat} {x : α} (h : l[i]? = some x) : x ∉ l.take i := by
  intro m
  obtain ⟨j, hj, e⟩ := List.mem_iff_getElem.mp m
  rw [List.length_take] at hj
  rw [List.getElem_take] at e
  obtain ⟨hi, e2⟩ := List.getElem?_eq_some_iff.mp h
  have := (List.getElem_inj nd).mp (e.trans e2.symm)
  omega
theorem taken_mem {α : Type} {l : List α} {i : Nat} {x : α} (m : x ∈ l.take i) : x ∈ l := List.mem_of_mem_take m

/-! ### promises -/
def sp_on_first (K : PySem.W.Frag) (_ : Ad) : Sp := fun vs H Q _ => ∃ v c h, vs = [v, .int h] ∧ PairAt H v c ∧ Hand h ∧ Q (.bl (decide (Fst h c))) H
def sp_on_last (_ : PySem.W.Frag) (D : Ad) : Sp := fun vs H Q _ => ∃ b d R C kv v c h, vs = [.ref b, v, .int h] ∧ BoardAt D H b d R C kv ∧ PairAt H v c ∧ Hand h ∧ Q (.bl (decide (Lst R C h c))) H
/-- the outcome of a search for a chain -/
structure ChainOr (H : Hp) (R C h : Int) (S : Cell → Prop) (Q : VK) : Prop where
  yes : ∀ l cs, IsChain R C h S cs → ∀ vs H', Same H H' → H l = none → H' l = some (.lst vs) → Cells H' vs cs → Q (.ref l) H'
  no : ¬ Joined R C h S → Keep H .non Q
theorem ChainOr.congr {H : Hp} {R C h : Int} {S U : Cell → Prop} {Q : VK} (c : ChainOr H R C h S Q) (k : ∀ c, B R C c → (S c ↔ U c)) : ChainOr H R C h U Q :=
  ⟨fun l cs i => c.yes l cs (i.mono' fun c b => (k c b).symm), fun n => c.no fun j => n ((joined_congr k).mp j)⟩
def sp_way_back (_ : PySem.W.Frag) (_ : Ad) : Sp := fun vs H Q _ => ∃ a v c bv kv P F, vs = [.ref a, v] ∧ H a = some (.dT bv) ∧ BackRel H bv kv ∧ PairAt H v c ∧ Ftree P F kv ∧ kv.length ≤ 100 ∧ (∃ o, lk kv c = some o) ∧ ∀ l cs, Way kv c cs → ∀ vs H', Same H H' → H l = none → H' l = some (.lst vs) → Cells H' vs cs → Q (.ref l) H'
def sp_chain_within (_ : PySem.W.Frag) (D : Ad) : Sp := fun vs H Q _ => ∃ b d R C kv h al cs, vs = [.ref b, .int h, .ref al] ∧ BoardAt D H b d R C kv ∧ Hand h ∧ Al H al cs ∧ ChainOr H R C h (fun c => c ∈ cs) Q
/-- the cells that belong to a hand -/
def Owns (kv : Own) (h : Int) (c : Cell) : Prop := lk kv c = some h
instance (kv : Own) (h : Int) (c : Cell) : Decidable (Owns kv h c) := by unfold Owns; infer_instance
theorem owns_iff {R C : Int} {kv : Own} (k : BOk R C kv) {h : Int} (hh : Hand h) (c : Cell) : ow kv c = h ↔ Owns kv h c := by
  unfold Owns
  rcases k.ow_hand c with ⟨e, n⟩ | ⟨e, n⟩
  · rw [e, n]
    constructor
    · intro z; rcases hh with rfl | rfl <;> omega
    · intro z; cases z
  · rw [n]
    constructor
    · intro z; rw [z]
    · intro z; exact Option.some.inj z
theorem empty_iff {R C : Int} {kv : Own} (k : BOk R C kv) (c : Cell) : ow kv c = 0 ↔ lk kv c = none := by
  rcases k.ow_hand c with ⟨e, n⟩ | ⟨e, n⟩
  · rw [e, n]; simp
  · rw [n]
    constructor
    · intro z; rcases e with e | e <;> omega
    · intro z; cases z
def sp_owned_by (_ : PySem.W.Frag) (D : Ad) : Sp := fun vs H Q _ => ∃ b d R C kv h, vs = [.ref b, .int h] ∧ BoardAt D H b d R C kv ∧ Hand h ∧ NewAl H R C (Owns kv h) Q
def sp_chain (_ : PySem.W.Frag) (D : Ad) : Sp := fun vs H Q E => ∃ b d R C kv h, vs = [.ref b, .int h] ∧ BoardAt D H b d R C kv ∧ (¬ Hand h → E (.ref D.eNoHand) none H) ∧ (Hand h → ChainOr H R C h (Owns kv h) Q)
def sp_winner (_ : PySem.W.Frag) (D : Ad) : Sp := fun vs H Q _ => ∃ b d R C kv, vs = [.ref b] ∧ BoardAt D H b d R C kv ∧ (empt R C kv ≠ [] → Keep H .non Q) ∧ (empt R C kv = [] → Joined R C 1 (Owns kv 1) → Keep H (.int 1) Q) ∧ (empt R C kv = [] → ¬ Joined R C 1 (Owns kv 1) → Keep H (.int 2) Q)
theorem Keep.same {H H' : Hp} {v : V} {Q : VK} (k : Keep H v Q) (s : Same H H') : Keep H' v Q := fun _ s2 => k _ (s.trans s2)
theorem NewCells.same {H H' : Hp} {cs : List Cell} {Q : VK} (k : NewCells H cs Q) (s : Same H H') : NewCells H' cs Q := fun l vs _ s2 n => k l vs _ (s.trans s2) (s.free n)
theorem NewAl.same {H H' : Hp} {R C : Int} {p : Cell → Prop} {Q : VK} (k : NewAl H R C p Q) (s : Same H H') : NewAl H' R C p Q := fun l cs _ s2 n => k l cs _ (s.trans s2) (s.free n)
theorem ChainOr.same {H H' : Hp} {R C h : Int} {S : Cell → Prop} {Q : VK} (c : ChainOr H R C h S Q) (s : Same H H') : ChainOr H' R C h S Q :=
  ⟨fun l cs i vs _ s2 n => c.yes l cs i vs _ (s.trans s2) (s.free n), fun n => (c.no n).same s⟩
theorem ref_non (l : Addr) : decide (V.ref l = V.non) = false := rfl
theorem Al.same {H H' : Hp} {a : Addr} {cs : List Cell} (h : Al H a cs) (s : Same H H') : Al H' a cs := s _ _ h
theorem keys_snoc {α : Type} (kv : List (Cell × α)) (p : Cell × α) : (kv ++ [p]).map (·.1) = kv.map (·.1) ++ [p.1] := by
  rw [List.map_append]
  rfl
theorem lk_of_mem {α : Type} {kv : List (Cell × α)} {c : Cell} (m : c ∈ kv.map (·.1)) : ∃ o, lk kv c = some o := by
  cases e : lk kv c with
  | none => exact absurd m (lk_none.mp e)
  | some o => exact ⟨o, rfl⟩
theorem lk_not_mem {α : Type} {kv : List (Cell × α)} {c : Cell} (m : c ∉ kv.map (·.1)) : lk kv c = none := lk_none.mpr m
/-- the flood's first cells are found -/
structure Firsts (P F : Cell → Prop) (kv : Back) (ts : List Cell) : Prop where
  ft : Ftree P F kv
  sub : ∀ c ∈ kv.map (·.1), c ∈ ts ∧ F c
  all : ∀ c ∈ ts, P c → F c → c ∈ kv.map (·.1)
theorem Firsts.nil {P F : Cell → Prop} : Firsts P F [] [] := ⟨.nil, fun _ m => (by cases m), fun _ m => (by cases m)⟩
theorem Firsts.skip {P F : Cell → Prop} {kv : Back} {ts : List Cell} {c : Cell} (f : Firsts P F kv ts) (n : ¬ (P c ∧ F c)) : Firsts P F kv (ts ++ [c]) :=
  ⟨f.ft, fun z m => ⟨List.mem_append.mpr (.inl (f.sub z m).1), (f.sub z m).2⟩, fun z m pz fz => (List.mem_append.mp m).elim (fun m => f.all z m pz fz) fun m => by rw [List.mem_singleton.mp m] at pz fz; exact absurd ⟨pz, fz⟩ n⟩
theorem Firsts.add {P F : Cell → Prop} {kv : Back} {ts : List Cell} {c : Cell} (f : Firsts P F kv ts) (pc : P c) (fc : F c) (n : c ∉ ts) : lk kv c = none ∧ Firsts P F (kv ++ [(c, none)]) (ts ++ [c]) := by
  have n' : lk kv c = none := lk_not_mem fun m => n (f.sub c m).1
  refine ⟨n', f.ft.add n' pc (fun _ => fc) (fun p h => nomatch h), fun z m => ?_, fun z m pz fz => ?_⟩
  · rw [keys_snoc] at m
    rcases List.mem_append.mp m with m | m
    · exact ⟨List.mem_append.mpr (.inl (f.sub z m).1), (f.sub z m).2⟩
    · rw [List.mem_singleton.mp m]; exact ⟨List.mem_append.mpr (.inr (List.mem_singleton.mpr rfl)), fc⟩
  · rw [keys_snoc]
    rcases List.mem_append.mp m with m | m
    · exact List.mem_append.mpr (.inl (f.all z m pz fz))
    · exact List.mem_append.mpr (.inr m)
theorem Firsts.flood {R C : Int} {S F : Cell → Prop} {kv : Back} (f : Firsts (In R C S) F kv (cells R C)) : Flood (In R C S) F (kv.map (·.1)) 0 := by
  obtain ⟨nd, rank, rk⟩ := f.ft
  refine ⟨nd, fun c m => ?_, fun c pc fc => f.all c (mem_cells.mpr pc.1) pc fc, fun i hi => absurd hi (Nat.not_lt_zero i)⟩
  obtain ⟨o, ho⟩ := lk_of_mem m
  exact ⟨c, (f.sub c m).2, .refl (rk c o ho).1⟩
theorem Ftree.few {R C : Int} (hr : R ≤ 10) (hc : C ≤ 10) {S F : Cell → Prop} {kv : Back} (f : Ftree (In R C S) F kv) : kv.length ≤ 100 := by
  obtain ⟨nd, rank, rk⟩ := f
  refine SC.few hr hc nd fun p hp => ?_
  obtain ⟨o, ho⟩ := lk_of_mem (List.mem_map.mpr ⟨p, hp, rfl⟩)
  exact (rk _ o ho).1.1
theorem Al.len {R C : Int} (hr : R ≤ 10) (hc : C ≤ 10) {cs : List Cell} (nd : cs.Nodup) (hB : ∀ c ∈ cs, B R C c) : (dk V.bl (tag cs)).length < sizeLine := by
  rw [tag_len]
  exact small100 (Nat.le_trans (fewc hr hc nd hB) (by decide))
end SC
namespace SC
open PySem PyProof.Rows L2

/-! ### the laws' own dicts of owners -/
def OvAt (H : Hp) (o : Addr) (ov : Own) : Prop := H o = some (.dT (dk V.int ov))
theorem OvAt.same {H H' : Hp} {o : Addr} {ov : Own} (h : OvAt H o ov) (s : Same H H') : OvAt H' o ov := s _ _ h
theorem cells_keys {α : Type} {H : Hp} (g : α → V) : ∀ {kv : List (Cell × α)} {bs : List Addr}, IsKeys H (dk g kv) bs → Cells H (bs.map V.ref) (kv.map (·.1))
  | [], [], .nil => .nil
  | _ :: _, _ :: _, .cons h t => .cons ⟨_, rfl, h⟩ (cells_keys g t)
theorem BOk.take {R C : Int} {kv : Own} (h : BOk R C kv) (i : Nat) : BOk R C (kv.take i) :=
  ⟨h.r1, h.r2, h.c1, h.c2, h.nd.sublist ((List.take_sublist _ _).map _), fun p m => h.ok p (List.mem_of_mem_take m)⟩
theorem BOk.size {R C : Int} {kv : Own} (h : BOk R C kv) : Size R C := ⟨h.r1, h.r2, h.c1, h.c2⟩
theorem BOk.fresh {R C : Int} {kv : Own} (h : BOk R C kv) {i : Nat} {p : Cell × Int} (e : kv[i]? = some p) : lk (kv.take i) p.1 = none := by
  refine lk_not_mem fun m => not_taken (l := kv.map (·.1)) h.nd (i := i) (x := p.1) ?_ ?_
  · rw [List.getElem?_map, e]; rfl
  · rw [← List.map_take]; exact m
theorem BOk.at {R C : Int} {kv : Own} (h : BOk R C kv) {i : Nat} {p : Cell × Int} (e : kv[i]? = some p) : lk kv p.1 = some p.2 ∧ B R C p.1 ∧ Hand p.2 :=
  ⟨lk_mem h.nd (List.mem_of_getElem? e), (h.ok p (List.mem_of_getElem? e)).1, (h.ok p (List.mem_of_getElem? e)).2⟩
def Full (R C : Int) (kv : Own) : Prop := ∀ c, B R C c → lk kv c ≠ none
theorem full_empt {R C : Int} {kv : Own} : empt R C kv = [] ↔ Full R C kv := by
  constructor
  · intro e c b n
    have m : c ∈ empt R C kv := mem_empt.mpr ⟨b, n⟩
    rw [e] at m
    cases m
  · intro f
    refine List.eq_nil_iff_forall_not_mem.mpr fun c m => ?_
    have m := mem_empt.mp m
    exact f c m.1 m.2
/-- the dict is filled, up to row i, column j -/
structure Filling (R C : Int) (full : Bool) (i j : Nat) (ov : Own) : Prop where
  ok : BOk R C ov
  lt : ∀ c : Cell, c ∈ ov.map (·.1) → c.1 < i ∨ (c.1 = i ∧ c.2 < j)
  all : full = true → ∀ c : Cell, B R C c → (c.1 < i ∨ (c.1 = i ∧ c.2 < j)) → lk ov c ≠ none
theorem Filling.free {R C : Int} {full : Bool} {i j : Nat} {ov : Own} (f : Filling R C full i j ov) : lk ov ((i : Int), (j : Int)) = none :=
  lk_not_mem fun m => by have := f.lt _ m; dsimp only at this; omega
theorem Filling.put {R C : Int} {full : Bool} {i j : Nat} {ov : Own} (f : Filling R C full i j ov) (hi : (i : Int) < R) (hj : (j : Int) < C) {v : Int} (hv : Hand v) : Filling R C full i (j + 1) (ov ++ [(((i : Int), (j : Int)), v)]) := by
  refine ⟨f.ok.put ⟨by dsimp only; omega, hi, by dsimp only; omega, hj⟩ hv f.free, fun c m => ?_, fun e c b h => ?_⟩
  · rw [keys_snoc] at m
    rcases List.mem_append.mp m with m | m
    · have := f.lt c m; omega
    · rw [List.mem_singleton.mp m]; dsimp only; omega
  · rw [lk_snoc _ _ _ _ f.free]
    by_cases q : ((i : Int), (j : Int)) = c
    · rw [if_pos q]; exact fun z => nomatch z
    · rw [if_neg q]
      refine f.all e c b ?_
      have q2 : ¬ (c.1 = i ∧ c.2 = j) := fun z => q (Prod.ext z.1.symm z.2.symm)
      omega
theorem Filling.skip {R C : Int} {i j : Nat} {ov : Own} (f : Filling R C false i j ov) : Filling R C false i (j + 1) ov :=
  ⟨f.ok, fun c m => by have := f.lt c m; omega, fun e => nomatch e⟩
theorem Filling.row {R C : Int} {full : Bool} {i j : Nat} {ov : Own} (f : Filling R C full i j ov) (hj : C ≤ j) : Filling R C full (i + 1) 0 ov :=
  ⟨f.ok, fun c m => by have := f.lt c m; omega, fun e c b h => f.all e c b (by unfold B at b; omega)⟩
theorem Filling.nil {R C : Int} (s : Size R C) (full : Bool) : Filling R C full 0 0 [] :=
  ⟨BOk.nil s.1 s.2.1 s.2.2.1 s.2.2.2, fun c m => (by cases m), fun e c b h => by unfold B at b; omega⟩
theorem Filling.full {R C : Int} {full : Bool} {i j : Nat} {ov : Own} (f : Filling R C full i j ov) (hi : R ≤ i) : full = true → Full R C ov := fun e c b => f.all e c b (by unfold B at b; omega)
/-- a new dict of owners, of whatever hands -/
def NewOv (H : Hp) (R C : Int) (full : Bool) (Q : VK) : Prop := ∀ l ov H', Same H H' → H l = none → OvAt H' l ov → BOk R C ov → (full = true → Full R C ov) → Q (.ref l) H'
theorem NewOv.same {H H' : Hp} {R C : Int} {full : Bool} {Q : VK} (k : NewOv H R C full Q) (s : Same H H') : NewOv H' R C full Q := fun l ov _ s2 n => k l ov _ (s.trans s2) (s.free n)
/-- a new board of these owners -/
def NewBoard (D : Ad) (H : Hp) (R C : Int) (kv : Own) (Q : VK) : Prop := ∀ b d H', Same H H' → H b = none → H d = none → BoardAt D H' b d R C kv → Q (.ref b) H'
theorem NewBoard.same {D : Ad} {H H' : Hp} {R C : Int} {kv : Own} {Q : VK} (k : NewBoard D H R C kv Q) (s : Same H H') : NewBoard D H' R C kv Q := fun b d _ s2 n m => k b d _ (s.trans s2) (s.free n) (s.free m)

theorem made_free {H : Hp} {b dx d : Addr} {o1 o2 : HO} (n : (upd (upd H dx o1) b o2) d = none) : H d = none := by
  by_cases e : d = b
  · subst e; rw [upd_same] at n; cases n
  · rw [upd_ne e] at n
    by_cases e2 : d = dx
    · subst e2; rw [upd_same] at n; cases n
    · rw [upd_ne e2] at n; exact n
/-- the coordinate that runs from a hand's first side to its last -/
def sd (h : Int) (c : Cell) : Int := if h = 1 then c.2 else c.1
theorem at_sd {h : Int} (hh : Hand h) (a b : Int) : atI [V.int a, V.int b] (2 - h) = some (V.int (sd h (a, b))) := by
  rcases hh with rfl | rfl <;> rfl
theorem fst_sd {h : Int} {c : Cell} : Fst h c ↔ sd h c = 0 := by unfold Fst sd; split <;> exact Iff.rfl
theorem lst_sd {R C h : Int} {c : Cell} : Lst R C h c ↔ sd h c = sd h (R, C) - 1 := by unfold Lst sd; split <;> exact Iff.rfl
/-- open cells are found, up to row i, column j -/
structure Opening (R C : Int) (ov : Own) (h : Int) (i j : Nat) (cs : List Cell) : Prop where
  nd : cs.Nodup
  mem : ∀ c, c ∈ cs ↔ B R C c ∧ (Owns ov h c ∨ (lk ov c = none ∧ (c.1 < i ∨ (c.1 = i ∧ c.2 < j))))
theorem Opening.free {R C : Int} {ov : Own} {h : Int} {i j : Nat} {cs : List Cell} (f : Opening R C ov h i j cs) (n : lk ov ((i : Int), (j : Int)) = none) : ((i : Int), (j : Int)) ∉ cs := fun m => by
  rcases ((f.mem _).mp m).2 with e | e
  · unfold Owns at e; rw [n] at e; cases e
  · have := e.2; dsimp only at this; omega
theorem Opening.add {R C : Int} {ov : Own} {h : Int} {i j : Nat} {cs : List Cell} (f : Opening R C ov h i j cs) (hi : (i : Int) < R) (hj : (j : Int) < C) (n : lk ov ((i : Int), (j : Int)) = none) : Opening R C ov h i (j + 1) (cs ++ [((i : Int), (j : Int))]) := by
  refine ⟨nd_snoc f.nd (f.free n), fun c => ?_⟩
  rw [List.mem_append, List.mem_singleton, f.mem]
  constructor
  · rintro (⟨b, e | ⟨e, e2⟩⟩ | e)
    · exact ⟨b, .inl e⟩
    · exact ⟨b, .inr ⟨e, by omega⟩⟩
    · subst e; exact ⟨⟨by dsimp only; omega, hi, by dsimp only; omega, hj⟩, .inr ⟨n, by dsimp only; omega⟩⟩
  · rintro ⟨b, e | ⟨e, e2⟩⟩
    · exact .inl ⟨b, .inl e⟩
    · by_cases q : c = ((i : Int), (j : Int))
      · exact .inr q
      · refine .inl ⟨b, .inr ⟨e, ?_⟩⟩
        have q2 : ¬ (c.1 = i ∧ c.2 = j) := fun z => q (Prod.ext z.1 z.2)
        omega
theorem Opening.skip {R C : Int} {ov : Own} {h : Int} {i j : Nat} {cs : List Cell} (f : Opening R C ov h i j cs) (n : lk ov ((i : Int), (j : Int)) ≠ none) : Opening R C ov h i (j + 1) cs := by
  refine ⟨f.nd, fun c => ?_⟩
  rw [f.mem]
  constructor
  · rintro ⟨b, e | ⟨e, e2⟩⟩
    · exact ⟨b, .inl e⟩
    · exact ⟨b, .inr ⟨e, by omega⟩⟩
  · rintro ⟨b, e | ⟨e, e2⟩⟩
    · exact ⟨b, .inl e⟩
    · refine ⟨b, .inr ⟨e, ?_⟩⟩
      have q2 : ¬ (c.1 = i ∧ c.2 = j) := fun z => n (by rw [← show c = ((i : Int), (j : Int)) from Prod.ext z.1 z.2]; exact e)
      omega
theorem Opening.row {R C : Int} {ov : Own} {h : Int} {i j : Nat} {cs : List Cell} (f : Opening R C ov h i j cs) (hj : C ≤ j) : Opening R C ov h (i + 1) 0 cs := by
  refine ⟨f.nd, fun c => ?_⟩
  rw [f.mem]
  unfold B
  constructor
  · rintro ⟨b, e | ⟨e, e2⟩⟩
    · exact ⟨b, .inl e⟩
    · exact ⟨b, .inr ⟨e, by omega⟩⟩
  · rintro ⟨b, e | ⟨e, e2⟩⟩
    · exact ⟨b, .inl e⟩
    · exact ⟨b, .inr ⟨e, by omega⟩⟩
theorem Opening.ends {R C : Int} {ov : Own} {h : Int} {i : Nat} {cs : List Cell} (f : Opening R C ov h i 0 cs) (hi : R ≤ i) (c : Cell) : c ∈ cs ↔ B R C c ∧ (Owns ov h c ∨ lk ov c = none) := by
  rw [f.mem]
  unfold B
  constructor
  · rintro ⟨b, e | ⟨e, e2⟩⟩
    · exact ⟨b, .inl e⟩
    · exact ⟨b, .inr e⟩
  · rintro ⟨b, e | e⟩
    · exact ⟨b, .inl e⟩
    · exact ⟨b, .inr ⟨e, by omega⟩⟩
theorem perm_len {α : Type} [DecidableEq α] {l m : List α} (h1 : l.Nodup) (h2 : m.Nodup) (h : ∀ x, x ∈ l ↔ x ∈ m) : l.length = m.length :=
  Nat.le_antisymm (pigeon l m h1 fun x z => (h x).mp z) (pigeon m l h2 fun x z => (h x).mpr z)
theorem filter_split {α : Type} (p : α → Bool) : ∀ l : List α, (l.filter p).length + (l.filter fun x => !p x).length = l.length
  | [] => rfl
  | a :: l => by
    have := filter_split p l
    rw [List.filter_cons, List.filter_cons, List.length_cons]
    cases p a <;> simp <;> omega
/-- as many cells are empty as are not owned -/
theorem count_empt {R C : Int} {kv : Own} (h : BOk R C kv) : kv.length + (empt R C kv).length = (cells R C).length := by
  have e := filter_split (fun c => (lk kv c).isSome) (cells R C)
  have e1 : ((cells R C).filter fun c => (lk kv c).isSome).length = (kv.map (·.1)).length := by
    refine perm_len ((cells_nodup R C).sublist List.filter_sublist) h.nd fun c => ?_
    rw [List.mem_filter, mem_cells]
    constructor
    · rintro ⟨_, z⟩
      by_cases m : c ∈ kv.map (·.1)
      · exact m
      · rw [lk_none.mpr m] at z; cases z
    · intro m
      obtain ⟨o, ho⟩ := lk_of_mem m
      exact ⟨(h.ok _ (lk_some ho)).1, by rw [ho]; rfl⟩
  have e2 : (fun c => !(lk kv c).isSome) = fun c => (lk kv c).isNone := by
    funext c
    cases lk kv c <;> rfl
  rw [e1, e2, List.length_map] at e
  exact e
/-- the cell that a value stands for -/
def cellOf (H : Hp) (v : V) : Cell := match v with
  | .ref t => match H t with
    | some (.tup [.int a, .int b]) => (a, b)
    | _ => (0, 0)
  | _ => (0, 0)
theorem cellOf_eq {H : Hp} {v : V} {c : Cell} (h : PairAt H v c) : cellOf H v = c := by
  obtain ⟨t, rfl, ht⟩ := h
  unfold cellOf
  simp only [ht]
theorem cells_of_map {H : Hp} : ∀ {xs : List V} {cs : List Cell}, Cells H xs cs → xs.map (cellOf H) = cs
  | _, _, .nil => rfl
  | _, _, .cons h t => by rw [List.map_cons, cellOf_eq h, cells_of_map t]
theorem cells_back {H : Hp} : ∀ {ys : List V}, (∀ y ∈ ys, ∃ c, PairAt H y c) → Cells H ys (ys.map (cellOf H))
  | [], _ => .nil
  | y :: ys, h => by
    obtain ⟨c, hc⟩ := h y (List.mem_cons_self ..)
    exact .cons (by rw [cellOf_eq hc]; exact hc) (cells_back fun z m => h z (List.mem_cons_of_mem _ m))
theorem cells_mem {H : Hp} {xs : List V} {cs : List Cell} (h : Cells H xs cs) {x : V} (m : x ∈ xs) : ∃ c, PairAt H x c := by
  obtain ⟨i, hi, e⟩ := List.mem_iff_getElem.mp m
  obtain ⟨c, _, p⟩ := paired_get h (List.getElem?_eq_some_iff.mpr ⟨hi, e⟩)
  exact ⟨c, p⟩
/-- what sorted wants of a list of cells -/
theorem sort_ok {H : Hp} {xs : List V} {cs : List Cell} (h : Cells H xs cs) : ∀ x ∈ xs, ∃ t, x = V.ref t ∧ H t = some (.tup [.int (cellOf H x).1, .int (cellOf H x).2]) := fun x m => by
  obtain ⟨c, hc⟩ := cells_mem h m
  rw [cellOf_eq hc]
  exact hc
theorem cells_perm {H : Hp} {xs ys : List V} {cs : List Cell} (h : Cells H xs cs) (p : ys.Perm xs) : Cells H ys (ys.map (cellOf H)) ∧ (ys.map (cellOf H)).Perm cs :=
  ⟨cells_back fun y m => cells_mem h (p.mem_iff.mp m), by rw [← cells_of_map h]; exact p.map _⟩
theorem paired_erase {α β : Type} {F : α → β → Prop} : ∀ {l : List α} {m : List β} {i : Nat}, Paired F l m → Paired F (l.eraseIdx i) (m.eraseIdx i)
  | _, _, _, .nil => .nil
  | _, _, 0, .cons _ t => t
  | _, _, i + 1, .cons f t => .cons f (paired_erase (i := i) t)
theorem perm_erase {α : Type} : ∀ {l : List α} {i : Nat} {x : α}, l[i]? = some x → l.Perm (x :: l.eraseIdx i)
  | [], _, _, h => by simp at h
  | a :: l, 0, x, h => by simp at h; subst h; exact .refl _
  | a :: l, i + 1, x, h => by
    simp at h
    exact ((perm_erase h).cons a).trans (.swap ..)
theorem drop_keys {α : Type} (kv : List (Cell × α)) (a : Cell) : (drop kv a).map (·.1) = (kv.map (·.1)).filter fun c => decide (c ≠ a) := by
  unfold drop
  rw [List.filter_map]
  rfl
theorem filter_ne {a : Cell} : ∀ {l : List Cell}, a ∉ l → l.filter (fun c => decide (c ≠ a)) = l := fun {l} h => List.filter_eq_self.mpr fun c m => decide_eq_true fun e => h (by rw [← e]; exact m)
/-- one key less -/
theorem drop_perm {kv : Own} {a : Cell} {ds : List Cell} (nd : (kv.map (·.1)).Nodup) (p : (a :: ds).Perm (kv.map (·.1))) : ds.Perm ((drop kv a).map (·.1)) := by
  rw [drop_keys]
  have q := p.filter fun c => decide (c ≠ a)
  have nd2 := (p.nodup_iff.mpr nd)
  rw [List.nodup_cons] at nd2
  rw [List.filter_cons_of_neg (by simp), filter_ne nd2.1] at q
  exact q
theorem seq_ix {i : Int} {n : Nat} (h0 : 0 ≤ i) (h1 : i < n) : seqIndex? i n = some i.toNat := by
  have e : (if i < 0 then i + (n : Int) else i) = i := if_neg (by omega)
  unfold seqIndex?
  dsimp only
  rw [e, if_pos (by simp; omega)]
theorem pick5 (a b c d e i : Int) : ∃ x, atI [V.int a, V.int b, V.int c, V.int d, V.int e] (i % 5) = some (V.int x) ∧ (x = a ∨ x = b ∨ x = c ∨ x = d ∨ x = e) := by
  have h : i % 5 = 0 ∨ i % 5 = 1 ∨ i % 5 = 2 ∨ i % 5 = 3 ∨ i % 5 = 4 := by omega
  rcases h with h | h | h | h | h <;> rw [h]
  · exact ⟨a, rfl, .inl rfl⟩
  · exact ⟨b, rfl, .inr (.inl rfl)⟩
  · exact ⟨c, rfl, .inr (.inr (.inl rfl))⟩
  · exact ⟨d, rfl, .inr (.inr (.inr (.inl rfl)))⟩
  · exact ⟨e, rfl, .inr (.inr (.inr (.inr rfl)))⟩

/-! ### promises -/
def sp_law_owners (K : PySem.W.Frag) (_ : Ad) : Sp := fun vs H Q _ => ∃ (a : Addr) (ns : List Int) (f R C : Int) (full : Bool), vs = [.ref a, .int f, .int R, .int C, .bl full] ∧ SqL K H a (ns.map V.int) ∧ 0 ≤ f ∧ Size R C ∧ NewOv H R C full Q
def sp_law_owners4 (K : PySem.W.Frag) (_ : Ad) : Sp := fun vs H Q _ => ∃ (a : Addr) (ns : List Int) (f R C : Int), vs = [.ref a, .int f, .int R, .int C] ∧ SqL K H a (ns.map V.int) ∧ 0 ≤ f ∧ Size R C ∧ NewOv H R C false Q
def sp_law_nearly_full (K : PySem.W.Frag) (_ : Ad) : Sp := fun vs H Q _ => ∃ (a : Addr) (ns : List Int) (f R C n : Int), vs = [.ref a, .int f, .int R, .int C, .int n] ∧ SqL K H a (ns.map V.int) ∧ 0 ≤ f ∧ Size R C ∧ 0 ≤ n ∧
  ∀ l ov H', Same H H' → H l = none → OvAt H' l ov → BOk R C ov → (empt R C ov).length = min n.toNat (cells R C).length → Q (.ref l) H'
def sp_law_board_of (_ : PySem.W.Frag) (D : Ad) : Sp := fun vs H Q _ => ∃ (R C : Int) (o : Addr) (ov : Own), vs = [.int R, .int C, .ref o] ∧ OvAt H o ov ∧ BOk R C ov ∧ NewBoard D H R C ov Q
def sp_law_same (_ : PySem.W.Frag) (D : Ad) : Sp := fun vs H Q _ => ∃ b d R C kv o ov, vs = [.ref b, .int R, .int C, .ref o] ∧ BoardAt D H b d R C kv ∧ OvAt H o ov ∧ (∀ c, B R C c → ow kv c = ow ov c) ∧ Keep H (.bl true) Q
def sp_law_owned (_ : PySem.W.Frag) (_ : Ad) : Sp := fun vs H Q _ => ∃ (o : Addr) (ov : Own) (h R C : Int), vs = [.ref o, .int h] ∧ OvAt H o ov ∧ BOk R C ov ∧ NewAl H R C (Owns ov h) Q
def sp_law_open (_ : PySem.W.Frag) (_ : Ad) : Sp := fun vs H Q _ => ∃ (R C : Int) (o : Addr) (ov : Own) (h : Int), vs = [.int R, .int C, .ref o, .int h] ∧ OvAt H o ov ∧ BOk R C ov ∧ NewAl H R C (fun c => Owns ov h c ∨ lk ov c = none) Q
def sp_law_joined (_ : PySem.W.Frag) (_ : Ad) : Sp := fun vs H Q _ => ∃ (R C h : Int) (al : Addr) (cs : List Cell), vs = [.int R, .int C, .int h, .ref al] ∧ Al H al cs ∧ cs.Nodup ∧ (∀ c ∈ cs, B R C c) ∧ Size R C ∧ Hand h ∧
  (Joined R C h (fun c => c ∈ cs) → Keep H (.bl true) Q) ∧ (¬ Joined R C h (fun c => c ∈ cs) → Keep H (.bl false) Q)
def sp_law_sizes (K : PySem.W.Frag) (_ : Ad) : Sp := fun vs H Q _ => ∃ (a : Addr) (ns : List Int), vs = [.ref a, .int 7] ∧ SqL K H a (ns.map V.int) ∧ ∀ p R C, Size R C → H p = none → Q (.ref p) (upd H p (.tup [.int R, .int C]))
/-- the hand to move has a good cell, n + 1 cells empty -/
def Good (R C : Int) : Nat → Int → Own → Prop
  | 0, h, kv => ∃ c, B R C c ∧ lk kv c = none ∧ Joined R C h (Owns (kv ++ [(c, h)]) h)
  | n + 1, h, kv => ∃ c, B R C c ∧ lk kv c = none ∧ ¬ Good R C n (3 - h) (kv ++ [(c, h)])
/-- c is a good cell -/
def GoodAt (R C : Int) (n : Nat) (h : Int) (kv : Own) (c : Cell) : Prop := B R C c ∧ lk kv c = none ∧ match n with
  | 0 => Joined R C h (Owns (kv ++ [(c, h)]) h)
  | n + 1 => ¬ Good R C n (3 - h) (kv ++ [(c, h)])
theorem good_iff {R C : Int} {n : Nat} {h : Int} {kv : Own} : Good R C n h kv ↔ ∃ c, GoodAt R C n h kv c := by
  cases n with
  | zero => exact Iff.rfl
  | succ n => exact Iff.rfl
/-- a new pair, or None -/
structure CellOr (H : Hp) (p : Cell → Prop) (Q : VK) : Prop where
  yes : ∀ c, p c → ∀ v H', Same H H' → PairAt H' v c → Q v H'
  no : (¬ ∃ c, p c) → Keep H .non Q
def sp_good (_ : PySem.W.Frag) (D : Ad) : Sp := fun vs H Q E => ∃ b d R C kv h, vs = [.ref b, .int h] ∧ BoardAt D H b d R C kv ∧ (¬ Hand h → E (.ref D.eNoHand) none H) ∧ (Hand h → ∃ n, (empt R C kv).length = n + 1 ∧ n ≤ 4 ∧ CellOr H (GoodAt R C n h kv) Q)
def sp_law_no_hand (_ : PySem.W.Frag) (D : Ad) : Sp := fun vs H Q _ => ∃ b d R C kv h, vs = [.ref b, .int h] ∧ BoardAt D H b d R C kv ∧ ¬ Hand h ∧ Keep H (.bl true) Q
def sp_law_bad_hand (_ : PySem.W.Frag) (_ : Ad) : Sp := fun vs H Q _ => ∃ i : Int, vs = [.int i] ∧ ∀ h, ¬ Hand h → Keep H (.int h) Q
def sp_law_is_chain (_ : PySem.W.Frag) (_ : Ad) : Sp := fun vs H Q _ => ∃ (l : Addr) (us : List V) (ks : List Cell) (R C h : Int) (al : Addr) (cs : List Cell), vs = [.ref l, .int R, .int C, .int h, .ref al] ∧ H l = some (.lst us) ∧ Cells H us ks ∧ Al H al cs ∧ Size R C ∧ Hand h ∧
  IsChain R C h (fun c => c ∈ cs) ks ∧ Keep H (.bl true) Q
end SC
namespace SC
open PySem PyProof.Rows L2

/-! ### boards made of boards -/
def swp (c : Cell) : Cell := (c.2, c.1)
theorem swp_swp (c : Cell) : swp (swp c) = c := rfl
theorem B_swp {R C : Int} {c : Cell} : B C R (swp c) ↔ B R C c := by unfold B swp; dsimp only; omega
/-- kv' holds what kv holds at the cells ts, each at m of it, as g of it -/
structure Copied (m : Cell → Cell) (g : Int → Int) (R C : Int) (kv kv' : Own) (ts : List Cell) : Prop where
  ok : BOk R C kv'
  at' : ∀ c, lk kv' c = if m c ∈ ts then (lk kv (m c)).map g else none
theorem Copied.nil {m : Cell → Cell} {g : Int → Int} {R C : Int} {kv : Own} (s : Size R C) : Copied m g R C kv [] [] :=
  ⟨BOk.nil s.1 s.2.1 s.2.2.1 s.2.2.2, fun c => by rw [if_neg (by simp), lk_nil]⟩
theorem Copied.skip {m : Cell → Cell} {g : Int → Int} {R C : Int} {kv kv' : Own} {ts : List Cell} (f : Copied m g R C kv kv' ts) {z : Cell} (n : lk kv z = none) : Copied m g R C kv kv' (ts ++ [z]) := by
  refine ⟨f.ok, fun c => ?_⟩
  rw [f.at']
  by_cases e : m c ∈ ts
  · rw [if_pos e, if_pos (List.mem_append.mpr (.inl e))]
  · rw [if_neg e]
    by_cases e2 : m c = z
    · rw [if_pos (List.mem_append.mpr (.inr (List.mem_singleton.mpr e2))), e2, n]; rfl
    · rw [if_neg fun q => (List.mem_append.mp q).elim e fun q => e2 (List.mem_singleton.mp q)]
theorem Copied.add {m : Cell → Cell} {g : Int → Int} {R C : Int} {kv kv' : Own} {ts : List Cell} (f : Copied m g R C kv kv' ts) (inv : ∀ c, m (m c) = c) {z : Cell} {v : Int} (nt : z ∉ ts) (hv : lk kv z = some v) (hb : B R C (m z)) (hg : Hand (g v)) :
    lk kv' (m z) = none ∧ Copied m g R C kv (kv' ++ [(m z, g v)]) (ts ++ [z]) := by
  have n : lk kv' (m z) = none := by rw [f.at', inv, if_neg nt]
  refine ⟨n, f.ok.put hb hg n, fun c => ?_⟩
  rw [lk_snoc _ _ _ _ n]
  by_cases e : m z = c
  · rw [if_pos e, ← e, inv, if_pos (List.mem_append.mpr (.inr (List.mem_singleton.mpr rfl))), hv]; rfl
  · rw [if_neg e, f.at']
    have e2 : m c ≠ z := fun q => e (by rw [← q, inv])
    by_cases e3 : m c ∈ ts
    · rw [if_pos e3, if_pos (List.mem_append.mpr (.inl e3))]
    · rw [if_neg e3, if_neg fun q => (List.mem_append.mp q).elim e3 fun q => e2 (List.mem_singleton.mp q)]
theorem BOk.out {R C : Int} {kv : Own} (h : BOk R C kv) {c : Cell} (n : ¬ B R C c) : lk kv c = none := by
  cases e : lk kv c with
  | none => rfl
  | some v => exact absurd (h.ok _ (lk_some e)).1 n
theorem Copied.ends {m : Cell → Cell} {g : Int → Int} {R C R' C' : Int} {kv kv' : Own} (f : Copied m g R' C' kv kv' (cells R C)) (h : BOk R C kv) (c : Cell) : lk kv' c = (lk kv (m c)).map g := by
  rw [f.at']
  by_cases e : m c ∈ cells R C
  · rw [if_pos e]
  · rw [if_neg e, h.out fun b => e (mem_cells.mpr b)]; rfl
/-- the same owners -/
def SameOwn (kv kv' : Own) : Prop := ∀ c, lk kv' c = lk kv c
def Mirror (kv kv' : Own) : Prop := ∀ c, lk kv' c = (lk kv (swp c)).map (3 - ·)
theorem SameOwn.ow {kv kv' : Own} (h : SameOwn kv kv') (c : Cell) : ow kv' c = ow kv c := by unfold SC.ow; rw [h c]
theorem SameOwn.empt {R C : Int} {kv kv' : Own} (h : SameOwn kv kv') : empt R C kv' = empt R C kv := by
  unfold SC.empt
  exact List.filter_congr fun c _ => by rw [h c]
theorem SameOwn.owns {kv kv' : Own} (h : SameOwn kv kv') (z : Int) (c : Cell) : Owns kv' z c ↔ Owns kv z c := by unfold Owns; rw [h c]
theorem SameOwn.put {kv kv' : Own} (h : SameOwn kv kv') {c : Cell} {v : Int} (n : lk kv c = none) : SameOwn (kv ++ [(c, v)]) (kv' ++ [(c, v)]) := fun z => by
  rw [lk_snoc _ _ _ _ n, lk_snoc _ _ _ _ (by rw [h c]; exact n), h z]
def sp_copied (_ : PySem.W.Frag) (D : Ad) : Sp := fun vs H Q _ => ∃ b d R C kv, vs = [.ref b] ∧ BoardAt D H b d R C kv ∧ ∀ kv', BOk R C kv' → SameOwn kv kv' → NewBoard D H R C kv' Q
def sp_mirrored (_ : PySem.W.Frag) (D : Ad) : Sp := fun vs H Q _ => ∃ b d R C kv, vs = [.ref b] ∧ BoardAt D H b d R C kv ∧ ∀ kv', BOk C R kv' → Mirror kv kv' → NewBoard D H C R kv' Q

/-! ### mirrored boards -/
theorem Adj.swp {a b : Cell} (h : Adj a b) : Adj (SC.swp a) (SC.swp b) := by unfold Adj SC.swp at *; dsimp only; omega
theorem In.swp {R C : Int} {S : Cell → Prop} {c : Cell} (h : In R C S c) : In C R (fun z => S (SC.swp z)) (SC.swp c) := ⟨B_swp.mpr h.1, h.2⟩
theorem Linked.swp {R C : Int} {S : Cell → Prop} {a b : Cell} (l : Linked (In R C S) a b) : Linked (In C R fun z => S (SC.swp z)) (SC.swp a) (SC.swp b) :=
  Linked.ind (fun z => Linked (In C R fun z => S (SC.swp z)) (SC.swp a) (SC.swp z)) l (.refl (In.swp l.left)) fun _ _ _ pd e ih => .snoc ih (Adj.swp e) (In.swp pd)
theorem fst_swp {h : Int} (hh : Hand h) {c : Cell} : Fst (3 - h) (swp c) ↔ Fst h c := by
  rcases hh with rfl | rfl <;> exact Iff.rfl
theorem lst_swp {R C h : Int} (hh : Hand h) {c : Cell} : Lst C R (3 - h) (swp c) ↔ Lst R C h c := by
  rcases hh with rfl | rfl <;> exact Iff.rfl
theorem hand3 {h : Int} (hh : Hand h) : Hand (3 - h) := by unfold Hand at *; omega
theorem Joined.swp {R C h : Int} (hh : Hand h) {S : Cell → Prop} (j : Joined R C h S) : Joined C R (3 - h) fun z => S (SC.swp z) := by
  obtain ⟨a, d, h1, h2, l⟩ := j
  exact ⟨SC.swp a, SC.swp d, (fst_swp hh).mpr h1, (lst_swp hh).mpr h2, Linked.swp l⟩
theorem joined_swp {R C h : Int} (hh : Hand h) {S : Cell → Prop} : Joined C R (3 - h) (fun z => S (swp z)) ↔ Joined R C h S :=
  ⟨fun j => by
    have q := Joined.swp (hand3 hh) j
    rw [show 3 - (3 - h) = h by omega] at q
    exact q, fun j => j.swp hh⟩
theorem Mirror.owns {kv kv' : Own} (m : Mirror kv kv') (h : Int) (c : Cell) : Owns kv' (3 - h) c ↔ Owns kv h (swp c) := by
  unfold Owns
  rw [m c]
  cases lk kv (swp c) with
  | none => simp
  | some v => simp <;> omega
theorem Mirror.mirror {kv kv1 kv2 : Own} (m : Mirror kv kv1) (n : Mirror kv1 kv2) : SameOwn kv kv2 := fun c => by
  rw [n c, m (swp c), swp_swp]
  cases lk kv c with
  | none => rfl
  | some v => simp <;> omega
/-- on a full board just one hand joins -/
theorem full_one {R C : Int} {kv : Own} (k : BOk R C kv) (f : Full R C kv) {h : Int} (hh : Hand h) : Joined R C (3 - h) (Owns kv (3 - h)) ↔ ¬ Joined R C h (Owns kv h) := by
  have e := hexJ k.r1 k.c1 hh (Owns kv h)
  have q : Joined R C (3 - h) (fun c => ¬ Owns kv h c) ↔ Joined R C (3 - h) (Owns kv (3 - h)) := joined_congr fun c b => by
    unfold Owns
    cases e : lk kv c with
    | none => exact absurd e (f c b)
    | some v =>
      have := (k.ok _ (lk_some e)).2
      unfold Hand at hh
      simp only [Option.some.injEq]
      dsimp only at this
      omega
  rw [q] at e
  exact ⟨fun z y => e.2 ⟨y, z⟩, fun z => e.1.resolve_left z⟩

open Classical in
/-- what winner tells -/
noncomputable def winV (R C : Int) (kv : Own) : V := if empt R C kv ≠ [] then .non else if Joined R C 1 (Owns kv 1) then .int 1 else .int 2
theorem win3 {H : Hp} {R C : Int} {kv : Own} {Q : VK} (k : Keep H (winV R C kv) Q) : (empt R C kv ≠ [] → Keep H .non Q) ∧ (empt R C kv = [] → Joined R C 1 (Owns kv 1) → Keep H (.int 1) Q) ∧ (empt R C kv = [] → ¬ Joined R C 1 (Owns kv 1) → Keep H (.int 2) Q) := by
  unfold winV at k
  refine ⟨fun e => ?_, fun e j => ?_, fun e j => ?_⟩
  · rw [if_pos e] at k; exact k
  · rw [if_neg (fun z => z e), if_pos j] at k; exact k
  · rw [if_neg (fun z => z e), if_neg j] at k; exact k
theorem winV_same {R C : Int} {kv kv' : Own} (h : SameOwn kv kv') : winV R C kv' = winV R C kv := by
  unfold winV
  rw [h.empt, show Joined R C 1 (Owns kv' 1) = Joined R C 1 (Owns kv 1) from propext (joined_congr fun c _ => h.owns 1 c)]
def othV : V → V
  | .int h => .int (3 - h)
  | v => v
theorem Mirror.empt_nil {R C : Int} {kv kv' : Own} (m : Mirror kv kv') : empt C R kv' = [] ↔ empt R C kv = [] := by
  rw [full_empt, full_empt]
  constructor
  · intro f c b e
    refine f (swp c) (B_swp.mpr b) ?_
    rw [m (swp c), swp_swp, e]; rfl
  · intro f c b e
    rw [m c] at e
    exact f (swp c) (B_swp.mpr b) (Option.map_eq_none_iff.mp e)
theorem winV_mirror {R C : Int} {kv kv' : Own} (k : BOk R C kv) (m : Mirror kv kv') : winV C R kv' = othV (winV R C kv) := by
  unfold winV
  by_cases e : empt R C kv = []
  · rw [if_neg (show ¬ (empt C R kv' ≠ []) from fun z => z (m.empt_nil.mpr e)), if_neg (show ¬ (empt R C kv ≠ []) from fun z => z e)]
    have q1 : Joined C R 1 (Owns kv' 1) ↔ Joined R C 2 (Owns kv 2) := by
      rw [← joined_swp (h := 2) (.inr rfl)]
      exact joined_congr fun c _ => m.owns 2 c
    have q2 := full_one k (full_empt.mp e) (h := 1) (.inl rfl)
    rw [show Joined C R 1 (Owns kv' 1) = ¬ Joined R C 1 (Owns kv 1) from propext (q1.trans q2)]
    by_cases j : Joined R C 1 (Owns kv 1)
    · rw [if_neg (fun z => z j), if_pos j]; rfl
    · rw [if_pos j, if_neg j]; rfl
  · rw [if_pos (fun z => e (m.empt_nil.mp z)), if_pos e]; rfl
def sp_law_other (_ : PySem.W.Frag) (_ : Ad) : Sp := fun vs H Q _ => ∃ v, vs = [v] ∧ (v = .non ∨ ∃ h, v = .int h) ∧ Q (othV v) H
theorem winV_is (R C : Int) (kv : Own) : winV R C kv = .non ∨ winV R C kv = .int 1 ∨ winV R C kv = .int 2 := by
  unfold winV
  split
  · exact .inl rfl
  · split
    · exact .inr (.inl rfl)
    · exact .inr (.inr rfl)
theorem Copied.ends_keys {m : Cell → Cell} {g : Int → Int} {R C : Int} {kv kv' : Own} (f : Copied m g R C kv kv' (kv.map (·.1))) (c : Cell) : lk kv' c = (lk kv (m c)).map g := by
  rw [f.at']
  by_cases e : m c ∈ kv.map (·.1)
  · rw [if_pos e]
  · rw [if_neg e, lk_none.mpr e]; rfl

/-! ### lists in order -/
def lexlt (a b : Cell) : Prop := a.1 < b.1 ∨ (a.1 = b.1 ∧ a.2 < b.2)
theorem sorted_unique : ∀ {l m : List Cell}, l.Pairwise lexlt → m.Pairwise lexlt → (∀ c, c ∈ l ↔ c ∈ m) → l = m
  | [], [], _, _, _ => rfl
  | [], b :: m, _, _, h => by have := (h b).mpr (List.mem_cons_self ..); cases this
  | a :: l, [], _, _, h => by have := (h a).mp (List.mem_cons_self ..); cases this
  | a :: l, b :: m, hl, hm, h => by
    rw [List.pairwise_cons] at hl hm
    have e : a = b := by
      have h1 := (h a).mp (List.mem_cons_self ..)
      have h2 := (h b).mpr (List.mem_cons_self ..)
      rcases List.mem_cons.mp h1 with h1 | h1
      · exact h1
      rcases List.mem_cons.mp h2 with h2 | h2
      · exact h2.symm
      have q1 := hm.1 a h1
      have q2 := hl.1 b h2
      unfold lexlt at q1 q2
      omega
    subst e
    congr 1
    refine sorted_unique hl.2 hm.2 fun c => ?_
    have irr : ∀ z : Cell, ¬ lexlt z z := fun z q => by unfold lexlt at q; omega
    constructor
    · intro m1
      rcases List.mem_cons.mp ((h c).mp (List.mem_cons_of_mem _ m1)) with q | q
      · subst q; exact absurd (hl.1 c m1) (irr c)
      · exact q
    · intro m1
      rcases List.mem_cons.mp ((h c).mpr (List.mem_cons_of_mem _ m1)) with q | q
      · subst q; exact absurd (hm.1 c m1) (irr c)
      · exact q
theorem cellsN_sorted : ∀ R C : Nat, (cellsN R C).Pairwise lexlt
  | 0, _ => List.Pairwise.nil
  | R + 1, C => by
    unfold cellsN
    rw [List.range_succ, List.flatMap_append]
    rw [show List.flatMap (fun (r : Nat) => (List.range C).map fun (c : Nat) => (((r : Nat) : Int), ((c : Nat) : Int))) [R] = (List.range C).map fun (c : Nat) => (((R : Nat) : Int), ((c : Nat) : Int)) by simp]
    refine List.pairwise_append.mpr ⟨cellsN_sorted R C, ?_, ?_⟩
    · exact List.pairwise_map.mpr (List.pairwise_lt_range.imp fun h => .inr ⟨rfl, by dsimp only; omega⟩)
    · intro a ha b hb
      simp only [List.mem_flatMap, List.mem_range, List.mem_map] at ha
      obtain ⟨r, hr, k, _, e1⟩ := ha
      obtain ⟨k2, _, e2⟩ := List.mem_map.mp hb
      rw [← e1, ← e2]
      exact .inl (by dsimp only; omega)
theorem empt_sorted (R C : Int) (kv : Own) : (empt R C kv).Pairwise lexlt := (cellsN_sorted _ _).sublist List.filter_sublist
theorem empt_nodup (R C : Int) (kv : Own) : (empt R C kv).Nodup := (cells_nodup R C).sublist List.filter_sublist
/-- what sorted hands back, of unlike cells -/
theorem srtd_cells {H : Hp} {xs ys : List V} {cs : List Cell} (h : Cells H xs cs) (nd : cs.Nodup) (p : ys.Perm xs) (s : SrtO.Srtd (ltP (cellOf H)) ys) : (ys.map (cellOf H)).Pairwise lexlt := by
  have hnd : (ys.map (cellOf H)).Nodup := ((cells_perm h p).2.nodup_iff).mpr nd
  have h1 : (ys.map (cellOf H)).Pairwise fun a b => ¬ lexlt b a := List.pairwise_map.mpr (s.imp fun {a b} q => by
    have := SrtO.lexB_no.mp q
    unfold lexlt
    exact this)
  refine (List.pairwise_and_iff.mpr ⟨h1, hnd⟩).imp fun {a b} q => ?_
  have := q.1
  have ne : ¬ (a.1 = b.1 ∧ a.2 = b.2) := fun z => q.2 (Prod.ext z.1 z.2)
  unfold lexlt at *
  omega
end SC
namespace SC
open PySem PyProof.Rows L2

/-! ### good cells -/
theorem CellOr.of {H : Hp} {p : Cell → Prop} {Q : VK} (h : ∀ v H', Same H H' → ((∃ c, p c ∧ PairAt H' v c) ∨ (v = .non ∧ ¬ ∃ c, p c)) → Q v H') : CellOr H p Q :=
  ⟨fun c pc v H' s hv => h v H' s (.inl ⟨c, pc, hv⟩), fun n H' s => h .non H' s (.inr ⟨rfl, n⟩)⟩
theorem CellOr.same {H H' : Hp} {p : Cell → Prop} {Q : VK} (k : CellOr H p Q) (s : Same H H') : CellOr H' p Q :=
  ⟨fun c pc v H2 s2 hv => k.yes c pc v H2 (s.trans s2) hv, fun n => (k.no n).same s⟩
theorem CellOr.congr {H : Hp} {p q : Cell → Prop} {Q : VK} (k : CellOr H p Q) (e : ∀ c, q c ↔ p c) : CellOr H q Q :=
  ⟨fun c qc => k.yes c ((e c).mp qc), fun n => k.no fun ⟨c, pc⟩ => n ⟨c, (e c).mpr pc⟩⟩
theorem ChainOr.of {H : Hp} {R C h : Int} {S : Cell → Prop} {Q : VK} (k : ∀ v H', Same H H' → ((∃ l cs vs, v = .ref l ∧ H l = none ∧ H' l = some (.lst vs) ∧ Cells H' vs cs ∧ IsChain R C h S cs) ∨ (v = .non ∧ ¬ Joined R C h S)) → Q v H') : ChainOr H R C h S Q :=
  ⟨fun l cs i vs H' s n hl hc => k _ H' s (.inl ⟨l, cs, vs, rfl, n, hl, hc, i⟩), fun n H' s => k _ H' s (.inr ⟨rfl, n⟩)⟩
theorem put_same {kv kv' : Own} (e : SameOwn kv kv') {c : Cell} (h : Int) (n : lk kv c = none) : SameOwn (kv ++ [(c, h)]) (kv' ++ [(c, h)]) := e.put n
theorem good_congr {R C : Int} : ∀ {n : Nat} {h : Int} {kv kv' : Own}, SameOwn kv kv' → (Good R C n h kv' ↔ Good R C n h kv)
  | 0, h, kv, kv', e => by
    unfold Good
    constructor
    · rintro ⟨c, b, n, j⟩
      have n' : lk kv c = none := by rw [← e c]; exact n
      exact ⟨c, b, n', (joined_congr fun z _ => (e.put n').owns h z).mp j⟩
    · rintro ⟨c, b, n, j⟩
      exact ⟨c, b, by rw [e c]; exact n, (joined_congr fun z _ => (e.put n).owns h z).mpr j⟩
  | m + 1, h, kv, kv', e => by
    unfold Good
    constructor
    · rintro ⟨c, b, n, j⟩
      have n' : lk kv c = none := by rw [← e c]; exact n
      exact ⟨c, b, n', fun z => j ((good_congr (e.put n')).mpr z)⟩
    · rintro ⟨c, b, n, j⟩
      exact ⟨c, b, by rw [e c]; exact n, fun z => j ((good_congr (e.put n)).mp z)⟩
theorem goodAt_congr {R C : Int} {n : Nat} {h : Int} {kv kv' : Own} (e : SameOwn kv kv') (c : Cell) : GoodAt R C n h kv' c ↔ GoodAt R C n h kv c := by
  unfold GoodAt
  rw [e c]
  constructor
  · rintro ⟨b, n', j⟩
    refine ⟨b, n', ?_⟩
    cases n with
    | zero => exact (joined_congr fun z _ => (e.put n').owns h z).mp j
    | succ m => exact fun z => j ((good_congr (e.put n')).mpr z)
  · rintro ⟨b, n', j⟩
    refine ⟨b, n', ?_⟩
    cases n with
    | zero => exact (joined_congr fun z _ => (e.put n').owns h z).mpr j
    | succ m => exact fun z => j ((good_congr (e.put n')).mp z)
theorem drop_put {kv : Own} {c : Cell} {h : Int} (n : lk kv c = none) : drop (kv ++ [(c, h)]) c = kv := by
  unfold drop
  rw [List.filter_append, List.filter_cons_of_neg (by simp), List.filter_nil, List.append_nil]
  refine List.filter_eq_self.mpr fun p m => decide_eq_true fun e => ?_
  exact lk_none.mp n (List.mem_map.mpr ⟨p, m, e⟩)
/-- one empty cell less -/
theorem empt_put {R C : Int} {kv : Own} (k : BOk R C kv) {c : Cell} {h : Int} (b : B R C c) (hh : Hand h) (n : lk kv c = none) : (empt R C (kv ++ [(c, h)])).length + 1 = (empt R C kv).length := by
  have e1 := count_empt k
  have e2 := count_empt (k.put b hh n)
  rw [List.length_append, List.length_singleton] at e2
  omega
/-- what was changed is as it was -/
theorem same_back {H H3 H4 : Hp} {d : Addr} {o o2 : HO} (s : Same H H3) (hd : H d = some o) (s4 : Same (upd H3 d o2) H4) : Same H (upd H4 d o) := fun a u e => by
  by_cases q : a = d
  · subst q
    rw [hd] at e
    rw [upd_same]
    exact e
  · rw [upd_ne q]
    exact s4 _ _ (by rw [upd_ne q]; exact s _ _ e)
/-- a list of cells that was given out ahead of a change of d -/
theorem keep_list {H3 H4 : Hp} {d L : Addr} {o o2 o3 : HO} {vs : List V} (hL : H3 L = some (.lst vs)) (hd : H3 d = some o) (s4 : Same (upd H3 d o2) H4) (ho : ∀ vs, o ≠ .lst vs) : (upd H4 d o3) L = some (.lst vs) := by
  have q : L ≠ d := ne_of hL hd fun z => ho _ z.symm
  rw [upd_ne q]
  exact s4 _ _ (by rw [upd_ne q]; exact hL)
theorem keep_cells {H3 H4 : Hp} {d : Addr} {o o2 o3 : HO} {vs : List V} {cs : List Cell} (hc : Cells H3 vs cs) (hd : H3 d = some o) (s4 : Same (upd H3 d o2) H4) (ho : ∀ xs, o ≠ .tup xs) (ho2 : ∀ xs, o2 ≠ .tup xs) : Cells (upd H4 d o3) vs cs :=
  ((hc.upd hd ho).same s4).upd (s4 _ _ upd_same) ho2
def spF : Sp := fun _ _ _ _ => False
/-- good_on, n + 1 cells empty -/
def sp_good1 (n : Nat) (_ : PySem.W.Frag) (D : Ad) : Sp := fun vs H Q _ => ∃ b d R C kv h, vs = [.ref b, .int h] ∧ BoardAt D H b d R C kv ∧ Hand h ∧ (empt R C kv).length = n + 1 ∧ CellOr H (GoodAt R C n h kv) Q
def sp_good_on (K : PySem.W.Frag) (D : Ad) : Sp := fun vs H Q E => ∃ n, n ≤ 4 ∧ sp_good1 n K D vs H Q E
theorem fn_none {P : Program} {w : World} {K : PySem.W.Frag} {mg : Str → Option Value} {base : Heap} {CX : CXT} {k : Nat} {f : Addr} {fd : FuncData} {ps : List Str} : FnOk P w K mg base CX k f fd ps spF :=
  ⟨fun _ _ _ _ h => h.elim, fun _ _ _ _ _ _ _ _ _ _ _ _ _ h => h.elim⟩
theorem fn_five {P : Program} {w : World} {K : PySem.W.Frag} {mg : Str → Option Value} {base : Heap} {CX : CXT} {k : Nat} {f : Addr} {fd : FuncData} {ps : List Str} {D : Ad}
    (h : ∀ n, n ≤ 4 → FnOk P w K mg base CX k f fd ps (sp_good1 n K D)) : FnOk P w K mg base CX k f fd ps (sp_good_on K D) :=
  ⟨fun vs H Q E ⟨n, hn, q⟩ => (h n hn).len vs H Q E q, fun A outer s H args us vs Q E hr he hb hv ⟨n, hn, q⟩ => (h n hn).run A outer s H args us vs Q E hr he hb hv q⟩
/-- the law's own deed: put, asked, lifted -/
def sp_law_wins (_ : PySem.W.Frag) (D : Ad) : Sp := fun vs H Q _ => ∃ b d R C kv v c h n, vs = [.ref b, .int h, v] ∧ BoardAt D H b d R C kv ∧ PairAt H v c ∧ Hand h ∧ B R C c ∧ lk kv c = none ∧ (empt R C kv).length = n + 1 ∧ n ≤ 4 ∧ (GoodAt R C n h kv c → Keep H (.bl true) Q) ∧ (¬ GoodAt R C n h kv c → Keep H (.bl false) Q)
def sp_law_played (K : PySem.W.Frag) (D : Ad) : Sp := fun vs H Q _ => ∃ b d R C kv h w ca, ∃ (xs : List Int) (n : Nat), vs = [.ref b, .int h, .int w, .ref ca] ∧ BoardAt D H b d R C kv ∧ Hand h ∧ Hand w ∧ H ca = some (.lst (xs.map V.int)) ∧ xs.length = 5 ∧ (empt R C kv).length = n + 1 ∧ n ≤ 3 ∧ (w = h → Good R C n h kv) ∧ (w = 3 - h → ¬ Good R C n h kv) ∧ ∀ H', Q (.bl true) H'
/-- on a full board winner tells the hand that joined -/
theorem winV_full {R C : Int} {kv : Own} (k : BOk R C kv) (f : empt R C kv = []) {h : Int} (hh : Hand h) : ∃ z : Int, winV R C kv = .int z ∧ (z = h ↔ Joined R C h (Owns kv h)) := by
  have q2 := full_one k (full_empt.mp f) (h := 1) (.inl rfl)
  unfold winV
  rw [if_neg (show ¬ (empt R C kv ≠ []) from fun z => z f)]
  by_cases j : Joined R C 1 (Owns kv 1)
  · rw [if_pos j]
    refine ⟨1, rfl, ?_⟩
    rcases hh with rfl | rfl
    · exact ⟨fun _ => j, fun _ => rfl⟩
    · exact ⟨fun z => by omega, fun z => absurd j (q2.mp z)⟩
  · rw [if_neg j]
    refine ⟨2, rfl, ?_⟩
    rcases hh with rfl | rfl
    · exact ⟨fun z => by omega, fun z => absurd z j⟩
    · exact ⟨fun _ => q2.mpr j, fun _ => rfl⟩
end SC
namespace SC
open PySem PyProof.Rows L2
open PySem.W (dataLt minD alike alikeAll AlikeAll min_list_data readsAll_at reads_keeps alike_unique dataLt_tuple dataLt_all_no dataLt_int)

/-! ### min of a list of pairs: a number and a cell -/
/-- w is the pair of a number and a cell -/
def EndAt (H : Hp) (w : V) (e : Int × Cell) : Prop := ∃ t v, w = .ref t ∧ H t = some (.tup [.int e.1, v]) ∧ PairAt H v e.2
theorem EndAt.same {H H' : Hp} {w : V} {e : Int × Cell} (h : EndAt H w e) (s : Same H H') : EndAt H' w e := by
  obtain ⟨t, v, h1, h2, h3⟩ := h
  exact ⟨t, v, h1, s _ _ h2, h3.same s⟩
def edat (e : Int × Cell) : PyData := .tuple [.int e.1, cdat e.2]
theorem dp_end {K : PySem.W.Frag} {H : Hp} {w : V} {e : Int × Cell} (h : EndAt H w e) : Dp K H w (edat e) := by
  obtain ⟨t, v, rfl, h2, h3⟩ := h
  exact .tup (SqT.of h2) (.cons (.int _) (.cons (dp_pair h3) .nil))
theorem dp_ends {K : PySem.W.Frag} {H : Hp} : ∀ {ws : List V} {es : List (Int × Cell)}, Paired (EndAt H) ws es → DpAll K H ws (es.map edat)
  | _, _, .nil => .nil
  | _, _, .cons h t => .cons (dp_end h) (dp_ends t)
def elt (y a : Int × Cell) : Bool := dataLt (edat y) (edat a)
theorem elt_lt {y a : Int × Cell} (h : y.1 < a.1) : elt y a = true := by
  unfold elt edat
  rw [dataLt_tuple, dataLt_all_no (by simp [alike]) (by simp [PyData.eqv]; omega), dataLt_int, decide_eq_true h]
theorem elt_le {y a : Int × Cell} (h : elt y a = true) : y.1 ≤ a.1 := by
  by_cases e : y.1 = a.1
  · omega
  · unfold elt edat at h
    rw [dataLt_tuple, dataLt_all_no (by simp [alike]) (by simp [PyData.eqv]; omega), dataLt_int, decide_eq_true_eq] at h
    omega
def minE (x : Int × Cell) (xs : List (Int × Cell)) : Int × Cell := xs.foldl (fun a y => if elt y a then y else a) x
theorem minE_dat : ∀ (xs : List (Int × Cell)) (x : Int × Cell), minD (edat x) (xs.map edat) = edat (minE x xs)
  | [], _ => rfl
  | y :: ys, x => by
    have ih := minE_dat ys (if elt y x then y else x)
    have e : (if dataLt (edat y) (edat x) then edat y else edat x) = edat (if elt y x then y else x) := by
      unfold elt
      split <;> rfl
    unfold minD minE at ih ⊢
    rw [List.map_cons, List.foldl_cons, List.foldl_cons, e]
    exact ih
theorem minE_least : ∀ (xs : List (Int × Cell)) (x : Int × Cell), (minE x xs).1 ≤ x.1 ∧ ∀ y ∈ xs, (minE x xs).1 ≤ y.1
  | [], x => ⟨Int.le_refl _, fun y h => by cases h⟩
  | z :: ys, x => by
    have ih := minE_least ys (if elt z x then z else x)
    have e : minE x (z :: ys) = minE (if elt z x then z else x) ys := rfl
    rw [e]
    have h1 : (if elt z x then z else x).1 ≤ x.1 := by
      split
      · rename_i h; exact elt_le h
      · exact Int.le_refl _
    have h2 : (if elt z x then z else x).1 ≤ z.1 := by
      split
      · exact Int.le_refl _
      · rename_i h
        by_cases q : z.1 < x.1
        · exact absurd (elt_lt q) h
        · omega
    refine ⟨by omega, fun y m => ?_⟩
    rcases List.mem_cons.mp m with rfl | m
    · omega
    · exact ih.2 y m
theorem alike_end (x y : Int × Cell) : alike (edat x) (edat y) = true := by simp [edat, cdat, alike, alikeAll]
theorem edat_inj {x y : Int × Cell} (h : edat x = edat y) : x = y := by
  obtain ⟨i, j, k⟩ := x
  obtain ⟨i', j', k'⟩ := y
  simp only [edat, cdat, PyData.tuple.injEq, List.cons.injEq, PyData.int.injEq, and_true] at h
  obtain ⟨rfl, rfl, rfl⟩ := h
  rfl
theorem depth_ends : ∀ es : List (Int × Cell), PyData.depthAll (es.map edat) ≤ 2
  | [] => by simp [PyData.depthAll]
  | e :: es => by
    have := depth_ends es
    have h : (edat e).depth = 2 := by simp [edat, cdat, PyData.depth, PyData.depthAll]
    rw [List.map_cons, PyData.depthAll, h]
    omega
/-- min(xs), xs a list of pairs of a number and a cell: one whose number is least -/
def rMinE (K : PySem.W.Frag) : List V → Hp → VK → Prop := fun vs H Q => ∃ (a : Addr) (ws : List V) (es : List (Int × Cell)), vs = [V.ref a] ∧ SqL K H a ws ∧ Paired (EndAt H) ws es ∧ es ≠ [] ∧
  ∀ (i : Nat) (w : V) (e : Int × Cell), ws[i]? = some w → es[i]? = some e → (∀ y ∈ es, e.1 ≤ y.1) → Q w H
theorem cr_minE {X : Cx} (hu : X.A.units + 64 < cLine) (hc : X.calm = true) : CallR X (.builtin "min") (rMinE X.K) := by
  intro pins s σ H vs us Q I r h
  obtain ⟨a, ws, es, rfl, hs, he, hne, q⟩ := h
  obtain ⟨its, rv, hl, _⟩ := I.list hs
  rw [Vals.ref1 r]
  obtain ⟨as, hr⟩ := Dp.readsAll I _ _ _ (dp_ends he) rv
  cases es with
  | nil => exact absurd rfl hne
  | cons x xs =>
    have hal : AlikeAll (edat x :: xs.map edat) := by
      rw [← List.map_cons]
      refine ⟨fun p hp y hy => ?_, fun p hp => ?_⟩
      · obtain ⟨p', _, rfl⟩ := List.mem_map.mp hp
        obtain ⟨y', _, rfl⟩ := List.mem_map.mp hy
        exact alike_end _ _
      · obtain ⟨p', _, rfl⟩ := List.mem_map.mp hp
        exact fun z => nomatch z
    have hdp : PyData.depthAll (edat x :: xs.map edat) ≤ 2 := by rw [← List.map_cons]; exact depth_ends _
    refine min_list_data (vs := its.toArray) (I.ok.hd hc) hl.isList hr hal (by omega) fun i v h' tk bs hv hrd hk => ?_
    rw [minE_dat] at hrd
    have hv' : its[i]? = some v := by simpa using hv
    obtain ⟨w, hw, rw'⟩ := paired_get' rv hv'
    obtain ⟨e, hei, hee⟩ := paired_get he hw
    obtain ⟨bs2, r2, _, _, _⟩ := readsAll_at hr i v hv'
    have e2 : ((x :: xs).map edat).getD i .none = edat e := by
      rw [List.getD_eq_getElem?_getD, List.getElem?_map, hei]
      rfl
    rw [e2] at r2
    have e3 : e = minE x xs := edat_inj (alike_unique _ _ _ _ _ (alike_end _ _) (reads_keeps hk r2) hrd)
    have hm := minE_least xs x
    refine ⟨w, H, I.kept hk, rw', q i w e hw hei fun y m => ?_⟩
    rw [e3]
    rcases List.mem_cons.mp m with rfl | m
    · exact hm.1
    · exact hm.2 y m
end SC
namespace SC
open PySem PyProof.Rows L2

/-! ### distances, in plain Lean -/
/-- own or empty -/
def Open (kv : Own) (h : Int) (c : Cell) : Prop := Owns kv h c ∨ lk kv c = none
def emp (kv : Own) (c : Cell) : Bool := (lk kv c).isNone
def cst (kv : Own) (c : Cell) : Nat := if emp kv c = true then 1 else 0
theorem cst_own {kv : Own} {h : Int} {c : Cell} (e : Owns kv h c) : cst kv c = 0 := by
  unfold cst emp
  unfold Owns at e
  rw [e]; rfl
theorem cst_emp {kv : Own} {c : Cell} (e : lk kv c = none) : cst kv c = 1 := by
  unfold cst emp
  rw [e]; rfl
theorem own_ne {kv : Own} {h : Int} {c : Cell} (e : Owns kv h c) : lk kv c ≠ none := by
  unfold Owns at e
  rw [e]
  exact fun z => nomatch z
abbrev Far := List (Cell × Nat)
/-- ways back, with how many empty cells they hold; none holds more than k -/
structure Dst (R C h : Int) (kv : Own) (far : Far) (back : Back) (k : Nat) : Prop where
  keys : far.map (·.1) = back.map (·.1)
  ft : Ftree (In R C (Open kv h)) (Fst h) back
  le : ∀ c n, lk far c = some n → n ≤ k
  e0 : ∀ c, lk back c = some none → lk far c = some (cst kv c)
  e1 : ∀ c p, lk back c = some (some p) → ∃ n, lk far p = some n ∧ lk far c = some (n + cst kv c)
theorem far_back {far : Far} {back : Back} (e : far.map (·.1) = back.map (·.1)) {c : Cell} : lk far c = none ↔ lk back c = none := by
  rw [lk_none, lk_none, e]
theorem Dst.nil {R C h : Int} {kv : Own} : Dst R C h kv [] [] 0 :=
  ⟨rfl, .nil, fun c n e => (by rw [lk_nil] at e; cases e), fun c e => (by rw [lk_nil] at e; cases e), fun c p e => (by rw [lk_nil] at e; cases e)⟩
theorem Dst.mono {R C h : Int} {kv : Own} {far : Far} {back : Back} {k j : Nat} (d : Dst R C h kv far back k) (l : k ≤ j) : Dst R C h kv far back j :=
  ⟨d.keys, d.ft, fun c n e => Nat.le_trans (d.le c n e) l, d.e0, d.e1⟩
theorem Dst.good {R C h : Int} {kv : Own} {far : Far} {back : Back} {k : Nat} (d : Dst R C h kv far back k) {c : Cell} {n : Nat} (e : lk far c = some n) : In R C (Open kv h) c := by
  have hb : lk back c ≠ none := fun z => by rw [(far_back d.keys).mpr z] at e; cases e
  obtain ⟨o, ho⟩ : ∃ o, lk back c = some o := by
    cases q : lk back c with
    | none => exact absurd q hb
    | some o => exact ⟨o, rfl⟩
  obtain ⟨_, rank, rk⟩ := d.ft
  exact (rk c o ho).1
theorem Dst.len {R C h : Int} {kv : Own} {far : Far} {back : Back} {k : Nat} (d : Dst R C h kv far back k) (hr : R ≤ 10) (hc : C ≤ 10) : far.length ≤ 100 ∧ back.length ≤ 100 := by
  have h1 := d.ft.few hr hc
  have h2 := congrArg List.length d.keys
  rw [List.length_map, List.length_map] at h2
  exact ⟨by omega, h1⟩
/-- one more cell is come to -/
theorem Dst.add {R C h : Int} {kv : Own} {far : Far} {back : Back} {k : Nat} (d : Dst R C h kv far back k) {c : Cell} {o : Option Cell} {m : Nat} (n : lk far c = none) (pc : In R C (Open kv h) c) (hm : m ≤ k)
    (h0 : o = none → Fst h c ∧ m = cst kv c) (h1 : ∀ p, o = some p → Adj p c ∧ ∃ q, lk far p = some q ∧ m = q + cst kv c) : Dst R C h kv (far ++ [(c, m)]) (back ++ [(c, o)]) k := by
  have n2 : lk back c = none := (far_back d.keys).mp n
  refine ⟨by rw [keys_snoc, keys_snoc, d.keys], d.ft.add n2 pc (fun e => (h0 e).1) (fun p e => ⟨?_, (h1 p e).1⟩), fun z q e => ?_, fun z e => ?_, fun z p e => ?_⟩
  · obtain ⟨_, q, hq, _⟩ := h1 p e
    cases e2 : lk back p with
    | none => rw [(far_back d.keys).mpr e2] at hq; cases hq
    | some o => exact ⟨o, rfl⟩
  · rw [lk_snoc _ _ _ _ n] at e
    by_cases q2 : c = z
    · rw [if_pos q2] at e; cases e; exact hm
    · rw [if_neg q2] at e; exact d.le z q e
  · rw [lk_snoc _ _ _ _ n2] at e
    rw [lk_snoc _ _ _ _ n]
    by_cases q2 : c = z
    · rw [if_pos q2] at e
      subst q2
      rw [if_pos rfl, (h0 (Option.some.inj e)).2]
    · rw [if_neg q2] at e ⊢
      exact d.e0 z e
  · rw [lk_snoc _ _ _ _ n2] at e
    by_cases q2 : c = z
    · rw [if_pos q2] at e
      subst q2
      obtain ⟨_, q, hq, e3⟩ := h1 p (Option.some.inj e)
      have ne : c ≠ p := fun z => by rw [← z, n] at hq; cases hq
      exact ⟨q, by rw [lk_snoc _ _ _ _ n, if_neg ne]; exact hq, by rw [lk_snoc _ _ _ _ n, if_pos rfl, e3]⟩
    · rw [if_neg q2] at e
      obtain ⟨q, hq, e3⟩ := d.e1 z p e
      have ne : c ≠ p := fun z => by rw [← z, n] at hq; cases hq
      exact ⟨q, by rw [lk_snoc _ _ _ _ n, if_neg ne]; exact hq, by rw [lk_snoc _ _ _ _ n, if_neg q2]; exact e3⟩
/-- a way holds as many empty cells as far tells -/
theorem Dst.way {R C h : Int} {kv : Own} {far : Far} {back : Back} {k : Nat} (d : Dst R C h kv far back k) {c : Cell} {l : List Cell} (w : Way back c l) {n : Nat} (e : lk far c = some n) : (l.filter (emp kv)).length = n := by
  have q := Way.sum (f := fun c => (lk far c).getD 0) (g := emp kv) (fun c e => by show (lk far c).getD 0 = _; rw [d.e0 c e]; rfl) (fun c p e => by
    obtain ⟨m, h1, h2⟩ := d.e1 c p e
    show (lk far c).getD 0 = (lk far p).getD 0 + _
    rw [h1, h2]; rfl) w
  rw [q]
  show (lk far c).getD 0 = n
  rw [e]; rfl
/-- the neighbours of c, to which n empty cells are needed, have been seen; those in later wait -/
def Seen (R C h : Int) (kv : Own) (far : Far) (k : Nat) (later : List Cell) (c : Cell) (n : Nat) : Prop :=
  ∀ d, Adj c d → In R C (Open kv h) d → (∃ m, lk far d = some m ∧ m ≤ n + cst kv d) ∨ (lk kv d = none ∧ d ∈ later ∧ n = k)
theorem Seen.more {R C h : Int} {kv : Own} {far far' : Far} {k : Nat} {later later' : List Cell} {c : Cell} {n : Nat} (s : Seen R C h kv far k later c n) (hf : ∀ z m, lk far z = some m → lk far' z = some m) (hl : ∀ z ∈ later, z ∈ later') : Seen R C h kv far' k later' c n := fun d a b => by
  rcases s d a b with ⟨m, h1, h2⟩ | ⟨h1, h2, h3⟩
  · exact .inl ⟨m, hf d m h1, h2⟩
  · exact .inr ⟨h1, hl d h2, h3⟩
theorem lk_more {α : Type} {kv : List (Cell × α)} {c : Cell} {v : α} (n : lk kv c = none) : ∀ z m, lk kv z = some m → lk (kv ++ [(c, v)]) z = some m := fun z m e => by
  rw [lk_snoc _ _ _ _ n, if_neg fun q => by rw [q, e] at n; cases n]
  exact e
abbrev Late := List (Cell × Cell)
/-- going on from the cells of line; dn of them are done -/
structure Wave (R C h : Int) (kv : Own) (far : Far) (back : Back) (k : Nat) (line : List Cell) (dn : Nat) (later : Late) : Prop where
  d : Dst R C h kv far back k
  nd : line.Nodup
  at' : ∀ c ∈ line, lk far c = some k
  cl : ∀ c n, lk far c = some n → c ∉ line.drop dn → Seen R C h kv far k (later.map (·.1)) c n
  lt : ∀ p ∈ later, lk kv p.1 = none ∧ B R C p.1 ∧ Adj p.2 p.1 ∧ lk far p.2 = some k
  sm : later.length ≤ 6 * dn
/-- the one at dn is being done: its neighbours in ts have been seen -/
structure WaveAt (R C h : Int) (kv : Own) (far : Far) (back : Back) (k : Nat) (line : List Cell) (dn : Nat) (later : Late) (c : Cell) (ts : List Cell) : Prop where
  d : Dst R C h kv far back k
  nd : line.Nodup
  at' : ∀ c ∈ line, lk far c = some k
  cl : ∀ c n, lk far c = some n → c ∉ line.drop dn → Seen R C h kv far k (later.map (·.1)) c n
  lt : ∀ p ∈ later, lk kv p.1 = none ∧ B R C p.1 ∧ Adj p.2 p.1 ∧ lk far p.2 = some k
  sm : later.length ≤ 6 * dn + ts.length
  here : line[dn]? = some c
  now : ∀ d ∈ ts, In R C (Open kv h) d → (∃ m, lk far d = some m ∧ m ≤ k + cst kv d) ∨ (lk kv d = none ∧ d ∈ later.map (·.1))
theorem Wave.start {R C h : Int} {kv : Own} {far : Far} {back : Back} {k : Nat} {line : List Cell} {dn : Nat} {later : Late} (w : Wave R C h kv far back k line dn later) {c : Cell} (e : line[dn]? = some c) : WaveAt R C h kv far back k line dn later c [] :=
  ⟨w.d, w.nd, w.at', w.cl, w.lt, by have := w.sm; simpa using this, e, fun _ m => by cases m⟩
theorem drop_more {α : Type} {l : List α} {i : Nat} {x : α} (h : l[i]? = some x) : l.drop i = x :: l.drop (i + 1) := by
  obtain ⟨hi, e⟩ := List.getElem?_eq_some_iff.mp h
  rw [List.drop_eq_getElem_cons hi, e]
theorem WaveAt.done {R C h : Int} {kv : Own} {far : Far} {back : Back} {k : Nat} {line : List Cell} {dn : Nat} {later : Late} {c : Cell} {ts : List Cell} (w : WaveAt R C h kv far back k line dn later c ts) (hl : ts.length ≤ 6) (hb : ∀ b, Adj c b → B R C b → b ∈ ts) : Wave R C h kv far back k line (dn + 1) later := by
  refine ⟨w.d, w.nd, w.at', fun z n e hz => ?_, w.lt, by have := w.sm; omega⟩
  by_cases q : z = c
  · subst q
    have e2 := w.at' z (List.mem_of_getElem? w.here)
    rw [e2] at e
    cases e
    intro d a b
    rcases w.now d (hb d a b.1) b with q | q
    · exact .inl q
    · exact .inr ⟨q.1, q.2, rfl⟩
  · exact w.cl z n e fun m => by
      rw [drop_more w.here] at m
      rcases List.mem_cons.mp m with m | m
      · exact q m
      · exact hz m
theorem WaveAt.skip {R C h : Int} {kv : Own} {far : Far} {back : Back} {k : Nat} {line : List Cell} {dn : Nat} {later : Late} {c d : Cell} {ts : List Cell} (w : WaveAt R C h kv far back k line dn later c ts) (q : lk far d ≠ none ∨ ¬ Open kv h d) : WaveAt R C h kv far back k line dn later c (ts ++ [d]) := by
  refine ⟨w.d, w.nd, w.at', w.cl, w.lt, by have := w.sm; rw [List.length_append, List.length_singleton]; omega, w.here, fun z m b => ?_⟩
  rcases List.mem_append.mp m with m | m
  · exact w.now z m b
  · rw [List.mem_singleton.mp m] at b ⊢
    rcases q with q | q
    · cases e : lk far d with
      | none => exact absurd e q
      | some n => exact .inl ⟨n, rfl, Nat.le_trans (w.d.le d n e) (Nat.le_add_right _ _)⟩
    · exact absurd b.2 q
theorem WaveAt.wait {R C h : Int} {kv : Own} {far : Far} {back : Back} {k : Nat} {line : List Cell} {dn : Nat} {later : Late} {c d : Cell} {ts : List Cell} (w : WaveAt R C h kv far back k line dn later c ts) (n : lk kv d = none) (b : B R C d) (a : Adj c d) : WaveAt R C h kv far back k line dn (later ++ [(d, c)]) c (ts ++ [d]) := by
  have hl : ∀ z ∈ later.map (·.1), z ∈ (later ++ [(d, c)]).map (·.1) := fun z m => by rw [List.map_append]; exact List.mem_append.mpr (.inl m)
  refine ⟨w.d, w.nd, w.at', fun z m e hz => (w.cl z m e hz).more (fun _ _ e => e) hl, fun p m => ?_, by have := w.sm; rw [List.length_append, List.length_singleton, List.length_append, List.length_singleton]; omega, w.here, fun z m b => ?_⟩
  · rcases List.mem_append.mp m with m | m
    · exact w.lt p m
    · rw [List.mem_singleton.mp m]
      exact ⟨n, b, a, w.at' c (List.mem_of_getElem? w.here)⟩
  · rcases List.mem_append.mp m with m | m
    · rcases w.now z m b with q | q
      · exact .inl q
      · exact .inr ⟨q.1, hl z q.2⟩
    · rw [List.mem_singleton.mp m]
      exact .inr ⟨n, by rw [List.map_append]; exact List.mem_append.mpr (.inr (List.mem_singleton.mpr rfl))⟩
theorem WaveAt.add {R C h : Int} {kv : Own} {far : Far} {back : Back} {k : Nat} {line : List Cell} {dn : Nat} {later : Late} {c d : Cell} {ts : List Cell} (w : WaveAt R C h kv far back k line dn later c ts) (n : lk far d = none) (o : Owns kv h d) (b : B R C d) (a : Adj c d) :
    WaveAt R C h kv (far ++ [(d, k)]) (back ++ [(d, some c)]) k (line ++ [d]) dn later c (ts ++ [d]) := by
  have hm := lk_more (v := k) n
  have hn : dn < line.length := (List.getElem?_eq_some_iff.mp w.here).1
  have hc := w.at' c (List.mem_of_getElem? w.here)
  have hdr : (line ++ [d]).drop dn = line.drop dn ++ [d] := List.drop_append_of_le_length (by omega)
  refine ⟨w.d.add n ⟨b, .inl o⟩ (Nat.le_refl _) (fun e => nomatch e) (fun p e => ?_), nd_snoc w.nd fun m => ?_, fun z m => ?_, fun z m e hz => ?_, fun p m => ?_, ?_, at_left w.here, fun z m b => ?_⟩
  · cases e
    exact ⟨a, k, hc, by rw [cst_own o, Nat.add_zero]⟩
  · rw [w.at' d m] at n; cases n
  · rcases List.mem_append.mp m with m | m
    · exact hm z k (w.at' z m)
    · rw [List.mem_singleton.mp m, lk_snoc _ _ _ _ n, if_pos rfl]
  · rw [hdr] at hz
    rw [lk_snoc _ _ _ _ n] at e
    by_cases q : d = z
    · exact absurd (List.mem_append.mpr (.inr (List.mem_singleton.mpr q.symm))) hz
    · rw [if_neg q] at e
      exact (w.cl z m e fun y => hz (List.mem_append.mpr (.inl y))).more hm fun _ y => y
  · obtain ⟨h1, h2, h3, h4⟩ := w.lt p m
    exact ⟨h1, h2, h3, hm _ _ h4⟩
  · have := w.sm
    rw [List.length_append, List.length_singleton]
    omega
  · rcases List.mem_append.mp m with m | m
    · rcases w.now z m b with ⟨q, h1, h2⟩ | q
      · exact .inl ⟨q, hm z q h1, h2⟩
      · exact .inr q
    · rw [List.mem_singleton.mp m]
      exact .inl ⟨k, by rw [lk_snoc _ _ _ _ n, if_pos rfl], Nat.le_add_right _ _⟩

/-- a round is over: the empty cells in later wait -/
structure Round (R C h : Int) (kv : Own) (far : Far) (back : Back) (k : Nat) (later : List (Cell × Option Cell)) : Prop where
  d : Dst R C h kv far back k
  cl : ∀ c n, lk far c = some n → Seen R C h kv far k (later.map (·.1)) c n
  fs : ∀ c, In R C (Open kv h) c → Fst h c → (∃ m, lk far c = some m ∧ m ≤ cst kv c) ∨ (k = 0 ∧ lk kv c = none ∧ c ∈ later.map (·.1))
  lt : ∀ p ∈ later, lk kv p.1 = none ∧ B R C p.1 ∧ (p.2 = none → Fst h p.1 ∧ k = 0) ∧ ∀ q, p.2 = some q → Adj q p.1 ∧ lk far q = some k
/-- the next round begins: the cells of ts, of those that waited, are come to -/
structure Turn (R C h : Int) (kv : Own) (far : Far) (back : Back) (k : Nat) (later ts : List (Cell × Option Cell)) (line : List Cell) : Prop where
  d : Dst R C h kv far back (k + 1)
  cl : ∀ c n, lk far c = some n → c ∉ line → n ≤ k ∧ Seen R C h kv far k (later.map (·.1)) c n
  fs : ∀ c, In R C (Open kv h) c → Fst h c → (∃ m, lk far c = some m ∧ m ≤ cst kv c) ∨ (k = 0 ∧ lk kv c = none ∧ c ∈ later.map (·.1))
  lt : ∀ p ∈ later, lk kv p.1 = none ∧ B R C p.1 ∧ (p.2 = none → Fst h p.1 ∧ k = 0) ∧ ∀ q, p.2 = some q → Adj q p.1 ∧ lk far q = some k
  nd : line.Nodup
  at' : ∀ c ∈ line, lk far c = some (k + 1)
  got : ∀ p ∈ ts, lk far p.1 ≠ none
theorem Round.turn {R C h : Int} {kv : Own} {far : Far} {back : Back} {k : Nat} {later : List (Cell × Option Cell)} (r : Round R C h kv far back k later) : Turn R C h kv far back k later [] [] :=
  ⟨r.d.mono (Nat.le_succ k), fun c n e _ => ⟨r.d.le c n e, r.cl c n e⟩, r.fs, r.lt, List.nodup_nil, fun c m => (by cases m), fun p m => (by cases m)⟩
theorem Turn.skip {R C h : Int} {kv : Own} {far : Far} {back : Back} {k : Nat} {later ts : List (Cell × Option Cell)} {line : List Cell} (t : Turn R C h kv far back k later ts line) {p : Cell × Option Cell} (e : lk far p.1 ≠ none) : Turn R C h kv far back k later (ts ++ [p]) line :=
  ⟨t.d, t.cl, t.fs, t.lt, t.nd, t.at', fun z m => (List.mem_append.mp m).elim (t.got z) fun m => by rw [List.mem_singleton.mp m]; exact e⟩
theorem Turn.add {R C h : Int} {kv : Own} {far : Far} {back : Back} {k : Nat} {later ts : List (Cell × Option Cell)} {line : List Cell} (t : Turn R C h kv far back k later ts line) {p : Cell × Option Cell} (hp : p ∈ later) (n : lk far p.1 = none) :
    Turn R C h kv (far ++ [(p.1, k + 1)]) (back ++ [p]) k later (ts ++ [p]) (line ++ [p.1]) := by
  obtain ⟨l1, l2, l3, l4⟩ := t.lt p hp
  have hm := lk_more (v := k + 1) n
  refine ⟨?_, fun c m e hc => ?_, fun c i f => ?_, fun z hz => ?_, nd_snoc t.nd fun m => ?_, fun z m => ?_, fun z m => ?_⟩
  · refine t.d.add (o := p.2) n ⟨l2, .inr l1⟩ (Nat.le_refl _) (fun e => ⟨(l3 e).1, by rw [(l3 e).2, cst_emp l1]⟩) fun q e => ⟨(l4 q e).1, k, (l4 q e).2, by rw [cst_emp l1]⟩
  · rw [lk_snoc _ _ _ _ n] at e
    by_cases q : p.1 = c
    · exact absurd (List.mem_append.mpr (.inr (List.mem_singleton.mpr q.symm))) hc
    · rw [if_neg q] at e
      obtain ⟨h1, h2⟩ := t.cl c m e fun y => hc (List.mem_append.mpr (.inl y))
      exact ⟨h1, h2.more hm fun _ y => y⟩
  · rcases t.fs c i f with ⟨m, h1, h2⟩ | q
    · exact .inl ⟨m, hm c m h1, h2⟩
    · exact .inr q
  · obtain ⟨h1, h2, h3, h4⟩ := t.lt z hz
    exact ⟨h1, h2, h3, fun q e => ⟨(h4 q e).1, hm _ _ (h4 q e).2⟩⟩
  · rw [t.at' _ m] at n; cases n
  · rcases List.mem_append.mp m with m | m
    · exact hm z _ (t.at' z m)
    · rw [List.mem_singleton.mp m, lk_snoc _ _ _ _ n, if_pos rfl]
  · rcases List.mem_append.mp m with m | m
    · cases e : lk far z.1 with
      | none => exact absurd e (t.got z m)
      | some v => rw [hm _ _ e]; exact fun y => nomatch y
    · rw [List.mem_singleton.mp m, lk_snoc _ _ _ _ n, if_pos rfl]; exact fun y => nomatch y
/-- all that waited are come to: go on from them -/
theorem Turn.wave {R C h : Int} {kv : Own} {far : Far} {back : Back} {k : Nat} {later : List (Cell × Option Cell)} {line : List Cell} (t : Turn R C h kv far back k later later line) :
    Wave R C h kv far back (k + 1) line 0 [] ∧ ∀ c, In R C (Open kv h) c → Fst h c → ∃ m, lk far c = some m ∧ m ≤ cst kv c := by
  have got : ∀ c ∈ later.map (·.1), ∃ m, lk far c = some m ∧ m ≤ k + 1 := fun c m => by
    obtain ⟨p, hp, rfl⟩ := List.mem_map.mp m
    cases e : lk far p.1 with
    | none => exact absurd e (t.got p hp)
    | some v => exact ⟨v, rfl, t.d.le _ _ e⟩
  refine ⟨⟨t.d, t.nd, t.at', fun c n e hc => ?_, fun p m => (by cases m), Nat.zero_le _⟩, fun c i f => ?_⟩
  · rw [List.drop_zero] at hc
    obtain ⟨h1, h2⟩ := t.cl c n e hc
    intro d a b
    rcases h2 d a b with q | ⟨q1, q2, q3⟩
    · exact .inl q
    · obtain ⟨m, g1, g2⟩ := got d q2
      exact .inl ⟨m, g1, by rw [cst_emp q1]; omega⟩
  · rcases t.fs c i f with q | ⟨q1, q2, q3⟩
    · exact q
    · obtain ⟨m, g1, g2⟩ := got c q3
      exact ⟨m, g1, by rw [cst_emp q2]; omega⟩
theorem Wave.round {R C h : Int} {kv : Own} {far : Far} {back : Back} {k : Nat} {line : List Cell} {dn : Nat} {later : Late} (w : Wave R C h kv far back k line dn later) (hd : line.length ≤ dn) (fs : ∀ c, In R C (Open kv h) c → Fst h c → ∃ m, lk far c = some m ∧ m ≤ cst kv c) :
    Round R C h kv far back k (later.map fun p => (p.1, some p.2)) := by
  have e : (later.map fun p => (p.1, some p.2)).map (·.1) = later.map (·.1) := by rw [List.map_map]; rfl
  refine ⟨w.d, fun c n h1 => ?_, fun c i f => .inl (fs c i f), fun p m => ?_⟩
  · rw [e]
    exact w.cl c n h1 (by rw [List.drop_eq_nil_of_le hd]; exact List.not_mem_nil)
  · obtain ⟨q, hq, rfl⟩ := List.mem_map.mp m
    obtain ⟨h1, h2, h3, h4⟩ := w.lt q hq
    exact ⟨h1, h2, (fun z => nomatch z), fun z e => by cases e; exact ⟨h3, h4⟩⟩
/-- what distances tells -/
structure Found (R C h : Int) (kv : Own) (far : Far) (back : Back) : Prop where
  d : ∃ k, Dst R C h kv far back k
  cl : ∀ c n, lk far c = some n → ∀ d, Adj c d → In R C (Open kv h) d → ∃ m, lk far d = some m ∧ m ≤ n + cst kv d
  fs : ∀ c, In R C (Open kv h) c → Fst h c → ∃ m, lk far c = some m ∧ m ≤ cst kv c
theorem Round.found {R C h : Int} {kv : Own} {far : Far} {back : Back} {k : Nat} (r : Round R C h kv far back k []) : Found R C h kv far back :=
  ⟨⟨k, r.d⟩, fun c n e d a b => (r.cl c n e d a b).elim id fun q => (by cases q.2.1), fun c i f => (r.fs c i f).elim id fun q => (by cases q.2.2)⟩
theorem Found.reach {R C h : Int} {kv : Own} {far : Far} {back : Back} (f : Found R C h kv far back) {a d : Cell} (fa : Fst h a) (l : Linked (In R C (Open kv h)) a d) : ∃ n, lk far d = some n :=
  Linked.ind (fun z => ∃ n, lk far z = some n) l ((f.fs a l.left fa).elim fun m q => ⟨m, q.1⟩) fun c d _ pd e ⟨n, hn⟩ => (f.cl c n hn d e pd).elim fun m q => ⟨m, q.1⟩
/-- no chain through own and empty cells holds fewer empty ones than far tells -/
theorem Found.low {R C h : Int} {kv : Own} {far : Far} {back : Back} (f : Found R C h kv far back) {cs : List Cell} (i : IsChain R C h (Open kv h) cs) : ∀ (j : Nat) (d : Cell), cs[j]? = some d → ∃ n, lk far d = some n ∧ n ≤ ((cs.take (j + 1)).filter (emp kv)).length := by
  have step : ∀ j d, cs[j]? = some d → ((cs.take (j + 1)).filter (emp kv)).length = ((cs.take j).filter (emp kv)).length + cst kv d := fun j d e => by
    rw [filter_take _ e, List.length_append]
    unfold cst
    split <;> rfl
  intro j
  induction j with
  | zero =>
    intro d e
    obtain ⟨a, h1, h2⟩ := i.fst
    rw [h1] at e
    cases e
    obtain ⟨m, g1, g2⟩ := f.fs d ⟨(i.ok d (List.mem_of_getElem? h1)).1, (i.ok d (List.mem_of_getElem? h1)).2⟩ h2
    exact ⟨m, g1, by rw [step 0 d h1]; omega⟩
  | succ j ih =>
    intro d e
    have hj : j < cs.length := by
      have := (List.getElem?_eq_some_iff.mp e).1
      omega
    have e0 := List.getElem?_eq_getElem hj
    obtain ⟨n, h1, h2⟩ := ih _ e0
    obtain ⟨m, g1, g2⟩ := f.cl _ n h1 d (i.adj j _ _ e0 e) ⟨(i.ok d (List.mem_of_getElem? e)).1, (i.ok d (List.mem_of_getElem? e)).2⟩
    exact ⟨m, g1, by rw [step (j + 1) d e]; omega⟩
/-- how many empty cells hand h needs -/
structure Needs (R C h : Int) (kv : Own) (n : Nat) : Prop where
  has : ∃ cs, IsChain R C h (Open kv h) cs ∧ (cs.filter (emp kv)).length = n
  low : ∀ cs, IsChain R C h (Open kv h) cs → n ≤ (cs.filter (emp kv)).length
theorem Needs.uniq {R C h : Int} {kv : Own} {n m : Nat} (a : Needs R C h kv n) (b : Needs R C h kv m) : n = m := by
  obtain ⟨cs, h1, h2⟩ := a.has
  obtain ⟨ds, h3, h4⟩ := b.has
  have := a.low ds h3
  have := b.low cs h1
  omega
theorem Needs.joined {R C h : Int} {kv : Own} {n : Nat} (a : Needs R C h kv n) : Joined R C h (Open kv h) := by
  obtain ⟨cs, h1, h2⟩ := a.has
  exact h1.joined
/-- the least of the last cells tells what is needed -/
theorem Found.needs {R C h : Int} {kv : Own} {far : Far} {back : Back} (f : Found R C h kv far back) {c : Cell} {n : Nat} (e : lk far c = some n) (hl : Lst R C h c) (least : ∀ d m, lk far d = some m → Lst R C h d → n ≤ m) {l : List Cell} (w : Way back c l) :
    IsChain R C h (Open kv h) l ∧ (l.filter (emp kv)).length = n ∧ Needs R C h kv n := by
  obtain ⟨k, d⟩ := f.d
  have h1 := w.chain d.ft hl
  have h2 := d.way w e
  refine ⟨h1, h2, ⟨l, h1, h2⟩, fun cs i => ?_⟩
  obtain ⟨z, g1, g2⟩ := i.lst
  obtain ⟨m, g3, g4⟩ := f.low i _ z g1
  have := least z m g3 g2
  rw [show cs.length - 1 + 1 = cs.length by have := i.pos; omega, List.take_length] at g4
  omega
theorem Found.shut {R C h : Int} {kv : Own} {far : Far} {back : Back} (f : Found R C h kv far back) (no : ∀ d m, lk far d = some m → ¬ Lst R C h d) : ¬ Joined R C h (Open kv h) := by
  rintro ⟨a, d, fa, ld, l⟩
  obtain ⟨n, hn⟩ := f.reach fa l
  exact no d n hn ld
/-- the cells of a belt -/
def Belt (kv : Own) (h : Int) (far : Far) (k : Nat) (c : Cell) : Prop := Owns kv (3 - h) c ∨ (lk far c = some k ∧ lk kv c = none)
/-- up to what is needed there is a belt for each number -/
theorem Found.belt {R C h : Int} {kv : Own} {far : Far} {back : Back} (f : Found R C h kv far back) (bk : BOk R C kv) (hh : Hand h) {n : Nat} (least : ∀ d m, lk far d = some m → Lst R C h d → n ≤ m) {k : Nat} (h1 : 1 ≤ k) (h2 : k ≤ n) : Joined R C (3 - h) (Belt kv h far k) := by
  refine Classical.byContradiction fun nj => ?_
  have e := (hexJ bk.r1 bk.c1 hh fun c => ¬ Belt kv h far k c).1
  have j : Joined R C h fun c => ¬ Belt kv h far k c := e.resolve_right fun j => nj (j.mono fun c _ s => Classical.not_not.mp s)
  have op : ∀ c, B R C c → ¬ Belt kv h far k c → Open kv h c := fun c b s => by
    unfold Belt at s
    unfold Open Owns at *
    cases e : lk kv c with
    | none => exact .inr rfl
    | some v =>
      have := (bk.ok _ (lk_some e)).2
      left
      have ne : v ≠ 3 - h := fun q => s (.inl (by rw [e, q]))
      dsimp only at this
      unfold Hand at hh
      congr 1
      omega
  obtain ⟨a, d, fa, ld, l⟩ := j
  have hbs := l.left
  have key : ∃ m, lk far d = some m ∧ m < k := by
    refine Linked.ind (fun z => ∃ m, lk far z = some m ∧ m < k) l ?_ fun c z _ pz ad ⟨m, g1, g2⟩ => ?_
    · obtain ⟨b, s⟩ := hbs
      obtain ⟨m, g1, g2⟩ := f.fs a ⟨b, op a b s⟩ fa
      refine ⟨m, g1, ?_⟩
      rcases op a b s with o | o
      · rw [cst_own o] at g2; omega
      · rw [cst_emp o] at g2
        have : m ≠ k := fun q => s (.inr ⟨by rw [g1, q], o⟩)
        omega
    · obtain ⟨b, s⟩ := pz
      obtain ⟨q, g3, g4⟩ := f.cl c m g1 z ad ⟨b, op z b s⟩
      refine ⟨q, g3, ?_⟩
      rcases op z b s with o | o
      · rw [cst_own o] at g4; omega
      · rw [cst_emp o] at g4
        have : q ≠ k := fun y => s (.inr ⟨by rw [g3, y], o⟩)
        omega
  obtain ⟨m, g1, g2⟩ := key
  have := least d m g1 ld
  omega
end SC
namespace SC
open PySem PyProof.Rows L2

/-! ### tuples stay, whatever else is changed -/
def Tups (H H' : Hp) : Prop := ∀ t xs, H t = some (.tup xs) → H' t = some (.tup xs)
theorem Tups.refl (H : Hp) : Tups H H := fun _ _ e => e
theorem Tups.of {H H' : Hp} (s : Same H H') : Tups H H' := fun _ _ e => s _ _ e
theorem Tups.trans {H H' H2 : Hp} (a : Tups H H') (b : Tups H' H2) : Tups H H2 := fun _ _ e => b _ _ (a _ _ e)
theorem Tups.upd {H : Hp} {a : Addr} {o o' : HO} (h : H a = some o) (n : ∀ xs, o ≠ .tup xs) : Tups H (upd H a o') := fun t xs e => by
  rw [upd_ne (ne_of e h fun z => n _ z.symm)]; exact e
theorem PairAt.tups {H H' : Hp} {v : V} {c : Cell} (h : PairAt H v c) (s : Tups H H') : PairAt H' v c := by
  obtain ⟨t, e, ht⟩ := h
  exact ⟨t, e, s _ _ ht⟩
theorem Cells.tups {H H' : Hp} {vs : List V} {cs : List Cell} (h : Cells H vs cs) (s : Tups H H') : Cells H' vs cs := L2.Paired.mapP h fun _ _ p => p.tups s
theorem OptAt.tups {H H' : Hp} {v : V} {o : Option Cell} (h : OptAt H v o) (s : Tups H H') : OptAt H' v o := by
  cases o with
  | none => exact h
  | some c => exact PairAt.tups h s
theorem BackRel.tups {H H' : Hp} {bv : List (List Key × V)} {kv : Back} (h : BackRel H bv kv) (s : Tups H H') : BackRel H' bv kv := L2.Paired.mapP h fun _ _ p => ⟨p.1, p.2.tups s⟩
theorem cells_put {H : Hp} {vs : List V} {cs : List Cell} {v : V} {c : Cell} (h : Cells H vs cs) (p : PairAt H v c) : Cells H (vs ++ [v]) (cs ++ [c]) := paired_app h (.cons p .nil)
/-- a cell that waits, and from where it was seen -/
def LateAt (H : Hp) (v : V) (p : Cell × Option Cell) : Prop := ∃ t v1 v2, v = .ref t ∧ H t = some (.tup [v1, v2]) ∧ PairAt H v1 p.1 ∧ OptAt H v2 p.2
abbrev Lates (H : Hp) : List V → List (Cell × Option Cell) → Prop := Paired (LateAt H)
theorem LateAt.tups {H H' : Hp} {v : V} {p : Cell × Option Cell} (h : LateAt H v p) (s : Tups H H') : LateAt H' v p := by
  obtain ⟨t, v1, v2, e, h1, h2, h3⟩ := h
  exact ⟨t, v1, v2, e, s _ _ h1, h2.tups s, h3.tups s⟩
theorem Lates.tups {H H' : Hp} {vs : List V} {ps : List (Cell × Option Cell)} (h : Lates H vs ps) (s : Tups H H') : Lates H' vs ps := L2.Paired.mapP h fun _ _ p => p.tups s
def gN (n : Nat) : V := .int (n : Int)
def FarAt (H : Hp) (a : Addr) (far : Far) : Prop := H a = some (.dT (dk gN far))
theorem FarAt.same {H H' : Hp} {a : Addr} {far : Far} (h : FarAt H a far) (s : Same H H') : FarAt H' a far := s _ _ h
theorem dk_len {α : Type} (g : α → V) (kv : List (Cell × α)) : (dk g kv).length = kv.length := by unfold dk; rw [List.length_map]
/-- the heap without what stands at three places -/
def less (H : Hp) (a b c : Addr) : Hp := fun x => if x = a ∨ x = b ∨ x = c then none else H x
theorem less_same (H : Hp) (a b c : Addr) : Same (less H a b c) H := fun x u e => by
  unfold less at e
  split at e
  · cases e
  · exact e
theorem less_a {H : Hp} {a b c : Addr} : less H a b c a = none := if_pos (.inl rfl)
theorem less_b {H : Hp} {a b c : Addr} : less H a b c b = none := if_pos (.inr (.inl rfl))
theorem less_c {H : Hp} {a b c : Addr} : less H a b c c = none := if_pos (.inr (.inr rfl))
theorem less_at {H : Hp} {a b c x : Addr} (h1 : x ≠ a) (h2 : x ≠ b) (h3 : x ≠ c) : less H a b c x = H x := if_neg fun z => z.elim h1 fun z => z.elim h2 h3
theorem less_none {H : Hp} {a b c x : Addr} (h : H x = none) : less H a b c x = none := by
  unfold less
  split
  · rfl
  · exact h
theorem less_up {H H' : Hp} {a b c : Addr} (s : Same H H') (h1 : H a = none) (h2 : H b = none) (h3 : H c = none) : Same H (less H' a b c) := fun x u e => by
  rw [less_at (fun z => by rw [z, h1] at e; cases e) (fun z => by rw [z, h2] at e; cases e) (fun z => by rw [z, h3] at e; cases e)]
  exact s _ _ e
theorem less_tups {H : Hp} {a b c : Addr} (h1 : ∀ xs, H a ≠ some (.tup xs)) (h2 : ∀ xs, H b ≠ some (.tup xs)) (h3 : ∀ xs, H c ≠ some (.tup xs)) : Tups H (less H a b c) := fun t xs e => by
  rw [less_at (fun z => by rw [z] at e; exact h1 _ e) (fun z => by rw [z] at e; exact h2 _ e) (fun z => by rw [z] at e; exact h3 _ e)]
  exact e
theorem ntup_dT {H : Hp} {a : Addr} {x : List (List Key × V)} (h : H a = some (.dT x)) : ∀ xs, H a ≠ some (.tup xs) := fun xs e => by rw [h] at e; cases e
theorem ntup_lst {H : Hp} {a : Addr} {x : List V} (h : H a = some (.lst x)) : ∀ xs, H a ≠ some (.tup xs) := fun xs e => by rw [h] at e; cases e
theorem ntup_none {H : Hp} {a : Addr} (h : H a = none) : ∀ xs, H a ≠ some (.tup xs) := fun xs e => by rw [h] at e; cases e

/-- far' holds all that far held -/
def FarX (far far' : Far) : Prop := far.length ≤ far'.length ∧ ∀ c m, lk far c = some m → lk far' c = some m
theorem FarX.refl (far : Far) : FarX far far := ⟨Nat.le_refl _, fun _ _ e => e⟩
theorem FarX.add {far far' : Far} (e : FarX far far') {c : Cell} {m : Nat} (n : lk far' c = none) : FarX far (far' ++ [(c, m)]) :=
  ⟨by rw [List.length_append, List.length_singleton]; have := e.1; omega, fun z q h => lk_more n z q (e.2 z q h)⟩

/-! ### promises of needs.py -/
def fst_own (R C h : Int) (kv : Own) : List Cell := (cells R C).filter fun c => decide (Fst h c ∧ Owns kv h c)
def fst_emp (R C h : Int) (kv : Own) : List Cell := (cells R C).filter fun c => decide (Fst h c ∧ lk kv c = none)
def sp_begun (_ : PySem.W.Frag) (D : Ad) : Sp := fun vs H Q _ => ∃ b d R C kv h, vs = [.ref b, .int h] ∧ BoardAt D H b d R C kv ∧ Hand h ∧
  ∀ p l1 l2 us1 us2 H', Same H H' → H' p = some (.tup [.ref l1, .ref l2]) → H' l1 = some (.lst us1) → H' l2 = some (.lst us2) → Cells H' us1 (fst_own R C h kv) → Cells H' us2 (fst_emp R C h kv) → Q (.ref p) H'
def sp_spread (_ : PySem.W.Frag) (D : Ad) : Sp := fun vs H Q _ => ∃ b d R C kv h la fa ba, ∃ (k : Nat) (H0 : Hp) (far : Far) (bv : List (List Key × V)) (back : Back) (us : List V) (line : List Cell),
  vs = [.ref b, .int h, .ref la, .ref fa, .ref ba, .int (k : Int)] ∧ Same H0 H ∧ H0 la = none ∧ H0 fa = none ∧ H0 ba = none ∧ fa ≠ ba ∧ BoardAt D H0 b d R C kv ∧ Hand h ∧ FarAt H fa far ∧ H ba = some (.dT bv) ∧ BackRel H bv back ∧ H la = some (.lst us) ∧ Cells H us line ∧
  Wave R C h kv far back k line 0 [] ∧ ∀ (l : Addr) (ws : List V) (far' : Far) (back' : Back) (bv' : List (List Key × V)) (line' : List Cell) (later : Late) (H' : Hp), Same H0 H' → H l = none → FarAt H' fa far' → H' ba = some (.dT bv') → BackRel H' bv' back' → H' l = some (.lst ws) →
    Lates H' ws (later.map fun p => (p.1, some p.2)) → Wave R C h kv far' back' k line' line'.length later → FarX far far' → (line = [] → later = []) → Q (.ref l) H'
def sp_distances (_ : PySem.W.Frag) (D : Ad) : Sp := fun vs H Q _ => ∃ b d R C kv h, vs = [.ref b, .int h] ∧ BoardAt D H b d R C kv ∧ Hand h ∧
  ∀ (q fa ba : Addr) (far : Far) (bv : List (List Key × V)) (back : Back) (H' : Hp), Same H H' → H' q = some (.tup [.ref fa, .ref ba]) → FarAt H' fa far → H' ba = some (.dT bv) → BackRel H' bv back → Found R C h kv far back → Q (.ref q) H'
def sp_belt (_ : PySem.W.Frag) (D : Ad) : Sp := fun vs H Q _ => ∃ b d R C kv h fa, ∃ (far : Far) (z : Int) (m : Nat), vs = [.ref b, .int h, .ref fa, .int z] ∧ z = m ∧ BoardAt D H b d R C kv ∧ Hand h ∧ FarAt H fa far ∧ (far.map (·.1)).Nodup ∧ (∀ p ∈ far, B R C p.1) ∧ ChainOr H R C (3 - h) (Belt kv h far m) Q
/-- v is a list of these cells -/
def LstAt (H : Hp) (v : V) (cs : List Cell) : Prop := ∃ a us, v = .ref a ∧ H a = some (.lst us) ∧ Cells H us cs
theorem LstAt.same {H H' : Hp} {v : V} {cs : List Cell} (h : LstAt H v cs) (s : Same H H') : LstAt H' v cs := by
  obtain ⟨a, us, e, h1, h2⟩ := h
  exact ⟨a, us, e, s _ _ h1, h2.same s⟩
/-- the outcome of need -/
structure NeedOr (H : Hp) (R C h : Int) (kv : Own) (Q : VK) : Prop where
  shut : ¬ Joined R C h (Open kv h) → ∀ (p l : Addr) (us : List V) (cs : List Cell) (H' : Hp), Same H H' → H p = none → H l = none → H' p = some (.tup [.str "shut", .ref l]) → H' l = some (.lst us) → Cells H' us cs → IsChain R C (3 - h) (Owns kv (3 - h)) cs → Q (.ref p) H'
  need : ∀ n, Needs R C h kv n → ∀ (p l a : Addr) (us bl : List V) (cs : List Cell) (bss : List (List Cell)) (far : Far) (H' : Hp), Same H H' → H p = none → H l = none → H a = none → l ≠ a → H' p = some (.tup [.str "need", .int (n : Int), .ref l, .ref a]) → H' l = some (.lst us) →
    Cells H' us cs → IsChain R C h (Open kv h) cs → (cs.filter (emp kv)).length = n → H' a = some (.lst bl) → Paired (LstAt H') bl bss → bss.length = n → (∀ i ds, bss[i]? = some ds → IsChain R C (3 - h) (Belt kv h far (i + 1)) ds) → Q (.ref p) H'
def sp_need (_ : PySem.W.Frag) (D : Ad) : Sp := fun vs H Q E => ∃ b d R C kv h, vs = [.ref b, .int h] ∧ BoardAt D H b d R C kv ∧ (¬ Hand h → E (.ref D.eNoHand) none H) ∧ (Hand h → NeedOr H R C h kv Q)
/-- the first cells of distances -/
structure First (R C h : Int) (kv : Own) (far : Far) (back : Back) (ts : List Cell) : Prop where
  d : Dst R C h kv far back 0
  mem : ∀ c, lk far c ≠ none ↔ c ∈ ts
theorem First.nil {R C h : Int} {kv : Own} : First R C h kv [] [] [] := ⟨.nil, fun c => by rw [lk_nil]; simp⟩
theorem First.add {R C h : Int} {kv : Own} {far : Far} {back : Back} {ts : List Cell} (f : First R C h kv far back ts) {c : Cell} (n : c ∉ ts) (b : B R C c) (e : Fst h c) (o : Owns kv h c) : lk far c = none ∧ First R C h kv (far ++ [(c, 0)]) (back ++ [(c, none)]) (ts ++ [c]) := by
  have n1 : lk far c = none := Classical.byContradiction fun z => n ((f.mem c).mp z)
  refine ⟨n1, f.d.add (o := none) n1 ⟨b, .inl o⟩ (Nat.le_refl _) (fun _ => ⟨e, (cst_own o).symm⟩) (fun p e => nomatch e), fun z => ?_⟩
  rw [lk_snoc _ _ _ _ n1, List.mem_append, List.mem_singleton]
  by_cases q : c = z
  · rw [if_pos q]; exact ⟨fun _ => .inr q.symm, fun _ y => nomatch y⟩
  · rw [if_neg q, f.mem z]; exact ⟨.inl, fun y => y.elim id fun y => absurd y.symm q⟩
theorem First.wave {R C h : Int} {kv : Own} {far : Far} {back : Back} {ts : List Cell} (f : First R C h kv far back ts) (nd : ts.Nodup) : Wave R C h kv far back 0 ts 0 [] := by
  refine ⟨f.d, nd, fun c m => ?_, fun c n e hc => ?_, fun p m => (by cases m), Nat.zero_le _⟩
  · cases e : lk far c with
    | none => exact absurd e ((f.mem c).mpr m)
    | some v => rw [show v = 0 from Nat.le_zero.mp (f.d.le c v e)]
  · exact absurd ((f.mem c).mp (by rw [e]; exact fun z => nomatch z)) hc
/-- the first round, with the empty cells of the first side -/
theorem Wave.round0 {R C h : Int} {kv : Own} {far : Far} {back : Back} {line : List Cell} {dn : Nat} {later : Late} (w : Wave R C h kv far back 0 line dn later) (hd : line.length ≤ dn) (own : ∀ c, In R C (Open kv h) c → Fst h c → Owns kv h c → lk far c ≠ none) :
    Round R C h kv far back 0 ((fst_emp R C h kv).map (fun c => (c, none)) ++ later.map fun p => (p.1, some p.2)) := by
  have hk : ∀ z ∈ later.map (·.1), z ∈ (((fst_emp R C h kv).map (fun c => (c, (none : Option Cell)))) ++ later.map fun p => (p.1, some p.2)).map (·.1) := fun z m => by
    obtain ⟨p, hp, rfl⟩ := List.mem_map.mp m
    exact List.mem_map.mpr ⟨(p.1, some p.2), List.mem_append.mpr (.inr (List.mem_map.mpr ⟨p, hp, rfl⟩)), rfl⟩
  refine ⟨w.d, fun c n h1 => (w.cl c n h1 (by rw [List.drop_eq_nil_of_le hd]; exact List.not_mem_nil)).more (fun _ _ e => e) hk, fun c i f => ?_, fun p m => ?_⟩
  · rcases i.2 with o | o
    · cases e : lk far c with
      | none => exact absurd e (own c i f o)
      | some v => exact .inl ⟨v, rfl, by rw [show v = 0 from Nat.le_zero.mp (w.d.le c v e)]; exact Nat.zero_le _⟩
    · refine .inr ⟨rfl, o, List.mem_map.mpr ⟨(c, none), List.mem_append.mpr (.inl (List.mem_map.mpr ⟨c, ?_, rfl⟩)), rfl⟩⟩
      exact List.mem_filter.mpr ⟨mem_cells.mpr i.1, decide_eq_true ⟨f, o⟩⟩
  · rcases List.mem_append.mp m with m | m
    · obtain ⟨c, hc, rfl⟩ := List.mem_map.mp m
      obtain ⟨h1, h2⟩ := List.mem_filter.mp hc
      have h3 := of_decide_eq_true h2
      exact ⟨h3.2, mem_cells.mp h1, fun _ => ⟨h3.1, rfl⟩, fun q e => nomatch e⟩
    · obtain ⟨q, hq, rfl⟩ := List.mem_map.mp m
      obtain ⟨h1, h2, h3, h4⟩ := w.lt q hq
      exact ⟨h1, h2, (fun z => nomatch z), fun z e => by cases e; exact ⟨h3, h4⟩⟩
/-- where hand h has no bridge, the other hand has a chain of its own -/
theorem shut_chain {R C h : Int} {kv : Own} (k : BOk R C kv) (hh : Hand h) (n : ¬ Joined R C h (Open kv h)) : Joined R C (3 - h) (Owns kv (3 - h)) := by
  have e := (hexJ k.r1 k.c1 hh (Open kv h)).1.resolve_left n
  refine e.mono fun c _ s => ?_
  unfold Open Owns at *
  cases q : lk kv c with
  | none => exact absurd (.inr q) s
  | some v =>
    have := (k.ok _ (lk_some q)).2
    dsimp only at this
    have ne : v ≠ h := fun z => s (.inl (by rw [q, z]))
    unfold Hand at hh
    congr 1
    omega
end SC
namespace SC
open PySem PyProof.Rows L2

/-! ### what is needed, on boards that are alike -/
/-- the number that need tells, or -1 where the hand is shut out -/
def NumIs (R C h : Int) (kv : Own) (z : Int) : Prop := (z = -1 ∧ ¬ Joined R C h (Open kv h)) ∨ ∃ n : Nat, z = n ∧ Needs R C h kv n
theorem NumIs.uniq {R C h : Int} {kv : Own} {y z : Int} (a : NumIs R C h kv y) (b : NumIs R C h kv z) : y = z := by
  rcases a with ⟨rfl, n⟩ | ⟨n, rfl, k⟩
  · rcases b with ⟨rfl, _⟩ | ⟨m, rfl, l⟩
    · rfl
    · exact absurd l.joined n
  · rcases b with ⟨rfl, m⟩ | ⟨m, rfl, l⟩
    · exact absurd k.joined m
    · rw [k.uniq l]
theorem map_at {α β : Type} {f : α → β} {l : List α} {i : Nat} {y : β} (h : (l.map f)[i]? = some y) : ∃ x, l[i]? = some x ∧ f x = y := by
  rw [List.getElem?_map] at h
  cases e : l[i]? with
  | none => rw [e] at h; cases h
  | some x => rw [e] at h; exact ⟨x, rfl, Option.some.inj h⟩
theorem IsChain.swp {R C h : Int} (hh : Hand h) {S : Cell → Prop} {cs : List Cell} (i : IsChain R C h S cs) : IsChain C R (3 - h) (fun c => S (SC.swp c)) (cs.map SC.swp) := by
  refine ⟨List.Pairwise.map SC.swp (fun x y e q => e (by rw [← swp_swp x, q, swp_swp])) i.nd, fun c m => ?_, fun j a b ha hb => ?_, ?_, ?_⟩
  · obtain ⟨z, hz, rfl⟩ := List.mem_map.mp m
    exact ⟨B_swp.mpr (i.ok z hz).1, by rw [swp_swp]; exact (i.ok z hz).2⟩
  · obtain ⟨x, hx, rfl⟩ := map_at ha
    obtain ⟨y, hy, rfl⟩ := map_at hb
    exact Adj.swp (i.adj j x y hx hy)
  · obtain ⟨a, h1, h2⟩ := i.fst
    exact ⟨SC.swp a, by rw [List.getElem?_map, h1]; rfl, (fst_swp hh).mpr h2⟩
  · obtain ⟨a, h1, h2⟩ := i.lst
    exact ⟨SC.swp a, by rw [List.length_map, List.getElem?_map, h1]; rfl, (lst_swp hh).mpr h2⟩
theorem Mirror.open {kv kv' : Own} (m : Mirror kv kv') (h : Int) (c : Cell) : Open kv' (3 - h) c ↔ Open kv h (swp c) := by
  unfold Open
  rw [m.owns h c, m c]
  cases lk kv (swp c) <;> simp
theorem Mirror.emp {kv kv' : Own} (m : Mirror kv kv') (c : Cell) : SC.emp kv' (swp c) = SC.emp kv c := by
  unfold SC.emp
  rw [m (swp c), swp_swp]
  cases lk kv c <;> rfl
theorem filter_map_len {α β : Type} (f : α → β) (p : β → Bool) (q : α → Bool) (e : ∀ x, p (f x) = q x) : ∀ l : List α, ((l.map f).filter p).length = (l.filter q).length
  | [] => rfl
  | a :: l => by
    have ih := filter_map_len f p q e l
    rw [List.map_cons, List.filter_cons, List.filter_cons, e a]
    cases q a
    · exact ih
    · simp only [if_true, List.length_cons, ih]
theorem Mirror.chain {R C h : Int} (hh : Hand h) {kv kv' : Own} (m : Mirror kv kv') {cs : List Cell} (i : IsChain R C h (Open kv h) cs) : IsChain C R (3 - h) (Open kv' (3 - h)) (cs.map swp) ∧ ((cs.map swp).filter (SC.emp kv')).length = (cs.filter (SC.emp kv)).length :=
  ⟨(i.swp hh).mono' fun c _ => (m.open h c).symm, filter_map_len swp _ _ m.emp cs⟩
theorem Mirror.symm {kv kv' : Own} (m : Mirror kv kv') : Mirror kv' kv := fun c => by
  rw [m (swp c), swp_swp]
  cases lk kv c with
  | none => rfl
  | some v => simp <;> omega
theorem NumIs.mirror {R C h : Int} (hh : Hand h) {kv kv' : Own} (m : Mirror kv kv') {z : Int} (n : NumIs R C h kv z) : NumIs C R (3 - h) kv' z := by
  rcases n with ⟨rfl, n⟩ | ⟨n, rfl, k⟩
  · refine .inl ⟨rfl, fun j => n ?_⟩
    refine (joined_swp hh).mp ((joined_congr fun c _ => m.open h c).mp j)
  · refine .inr ⟨n, rfl, ?_, fun cs i => ?_⟩
    · obtain ⟨cs, i, e⟩ := k.has
      obtain ⟨i2, e2⟩ := m.chain hh i
      exact ⟨_, i2, e2.trans e⟩
    · obtain ⟨i2, e2⟩ := m.symm.chain (hand3 hh) i
      rw [show 3 - (3 - h) = h by omega] at i2
      have := k.low _ i2
      omega
theorem NumIs.same {R C h : Int} {kv kv' : Own} (s : SameOwn kv kv') {z : Int} (n : NumIs R C h kv z) : NumIs R C h kv' z := by
  have op : ∀ c, Open kv h c ↔ Open kv' h c := fun c => by unfold Open; rw [s.owns h c, s c]
  have em : SC.emp kv' = SC.emp kv := by funext c; unfold SC.emp; rw [s c]
  rcases n with ⟨rfl, n⟩ | ⟨n, rfl, k⟩
  · exact .inl ⟨rfl, fun j => n ((joined_congr fun c _ => op c).mpr j)⟩
  · refine .inr ⟨n, rfl, ?_, fun cs i => ?_⟩
    · obtain ⟨cs, i, e⟩ := k.has
      exact ⟨cs, i.mono' fun c _ => op c, by rw [em]; exact e⟩
    · rw [em]
      exact k.low cs (i.mono' fun c _ => (op c).symm)
theorem NumIs.full {R C h : Int} {kv : Own} (e : empt R C kv = []) {z : Int} (n : NumIs R C h kv z) : z = -1 ∨ z = 0 := by
  rcases n with ⟨rfl, n⟩ | ⟨n, rfl, k⟩
  · exact .inl rfl
  · obtain ⟨cs, i, e2⟩ := k.has
    right
    have : cs.filter (SC.emp kv) = [] := List.filter_eq_nil_iff.mpr fun c m q => by
      unfold SC.emp at q
      exact full_empt.mp e c (i.ok c m).1 (Option.isNone_iff_eq_none.mp q)
    rw [this] at e2
    rw [← e2]; rfl
theorem NumIs.ge {R C h : Int} {kv : Own} {z : Int} (n : NumIs R C h kv z) : -1 ≤ z := by
  rcases n with ⟨rfl, n⟩ | ⟨n, rfl, k⟩ <;> omega
theorem filter_one {p q : Cell → Bool} {c : Cell} (hc : p c = true) (hq : q c = false) (ho : ∀ x, x ≠ c → p x = q x) : ∀ l : List Cell, l.Nodup → (l.filter p).length ≤ (l.filter q).length + 1 ∧ (l.filter q).length ≤ (l.filter p).length ∧ (c ∉ l → l.filter p = l.filter q)
  | [], _ => ⟨by simp, by simp, fun _ => rfl⟩
  | a :: l, nd => by
    rw [List.nodup_cons] at nd
    obtain ⟨h1, h2, h3⟩ := filter_one hc hq ho l nd.2
    rw [List.filter_cons, List.filter_cons]
    by_cases e : a = c
    · subst e
      rw [hc, hq, h3 nd.1]
      simp only [if_true, Bool.false_eq_true, if_false, List.length_cons]
      exact ⟨Nat.le_refl _, Nat.le_succ _, fun z => absurd (List.mem_cons_self ..) z⟩
    · rw [ho a e]
      cases q a
      · simp only [Bool.false_eq_true, if_false]
        exact ⟨h1, h2, fun z => h3 fun y => z (List.mem_cons_of_mem _ y)⟩
      · simp only [if_true, List.length_cons]
        exact ⟨by omega, by omega, fun z => by rw [h3 fun y => z (List.mem_cons_of_mem _ y)]⟩
theorem open_put {kv : Own} {c : Cell} {h : Int} (n : lk kv c = none) (z : Cell) : Open (kv ++ [(c, h)]) h z ↔ Open kv h z := by
  unfold Open Owns
  rw [lk_snoc _ _ _ _ n]
  by_cases q : c = z
  · subst q; rw [if_pos rfl, n]; simp
  · rw [if_neg q]
theorem emp_put {kv : Own} {c : Cell} {h : Int} (n : lk kv c = none) (z : Cell) : SC.emp (kv ++ [(c, h)]) z = if c = z then false else SC.emp kv z := by
  unfold SC.emp
  rw [lk_snoc _ _ _ _ n]
  by_cases q : c = z
  · rw [if_pos q, if_pos q]; rfl
  · rw [if_neg q, if_neg q]
/-- with a cell put to the hand as many are needed, or one less -/
theorem NumIs.put {R C h : Int} {kv : Own} {c : Cell} (n : lk kv c = none) {y z : Int} (a : NumIs R C h kv y) (b : NumIs R C h (kv ++ [(c, h)]) z) : (y = -1 → z = -1) ∧ (y ≠ -1 → 0 ≤ z ∧ y - 1 ≤ z ∧ z ≤ y) := by
  have op := open_put (h := h) n
  have e1 : SC.emp kv c = true := by unfold SC.emp; rw [n]; rfl
  have e2 : SC.emp (kv ++ [(c, h)]) c = false := by rw [emp_put n, if_pos rfl]
  have e3 : ∀ x, x ≠ c → SC.emp kv x = SC.emp (kv ++ [(c, h)]) x := fun x q => by rw [emp_put n, if_neg fun z => q z.symm]
  rcases a with ⟨rfl, na⟩ | ⟨m, rfl, ka⟩
  · refine ⟨fun _ => ?_, fun q => absurd rfl q⟩
    rcases b with ⟨rfl, nb⟩ | ⟨l, rfl, kb⟩
    · rfl
    · exact absurd (kb.joined.mono fun z _ s => (op z).mp s) na
  · refine ⟨fun q => by omega, fun _ => ?_⟩
    rcases b with ⟨rfl, nb⟩ | ⟨l, rfl, kb⟩
    · exact absurd (ka.joined.mono fun z _ s => (op z).mpr s) nb
    · obtain ⟨cs, i, e⟩ := ka.has
      obtain ⟨ds, j, f⟩ := kb.has
      have h1 := kb.low cs (i.mono' fun z _ => (op z).symm)
      have h2 := ka.low ds (j.mono' fun z _ => op z)
      have h3 := filter_one e1 e2 e3 cs i.nd
      have h4 := filter_one e1 e2 e3 ds j.nd
      omega
/-- with a cell put to the other hand no fewer are needed -/
theorem Needs.other {R C h : Int} {kv : Own} {c : Cell} {n m : Nat} (hh : Hand h) (e : lk kv c = none) (a : Needs R C h kv n) (b : Needs R C h (kv ++ [(c, 3 - h)]) m) : n ≤ m := by
  obtain ⟨cs, i, f⟩ := b.has
  have nc : ∀ z ∈ cs, c ≠ z := fun z hz q => by
    have := (i.ok z hz).2
    unfold Open Owns at this
    rw [lk_snoc _ _ _ _ e, if_pos q] at this
    unfold Hand at hh
    rcases this with t | t
    · have := Option.some.inj t; omega
    · cases t
  have i2 : IsChain R C h (Open kv h) cs := i.mono fun z hz s => by
    unfold Open Owns at *
    rw [lk_snoc _ _ _ _ e, if_neg (nc z hz)] at s
    exact s
  have := a.low cs i2
  rw [← f, List.filter_congr (q := SC.emp kv) fun z hz => by rw [emp_put e, if_neg (nc z hz)]]
  exact this
theorem shut_other {R C h : Int} {kv : Own} {c : Cell} (hh : Hand h) (e : lk kv c = none) (n : ¬ Joined R C h (Open kv h)) : ¬ Joined R C h (Open (kv ++ [(c, 3 - h)]) h) := fun j => n (j.mono fun z _ s => by
  unfold Open Owns at *
  rw [lk_snoc _ _ _ _ e] at s
  by_cases q : c = z
  · rw [if_pos q] at s
    unfold Hand at hh
    rcases s with t | t
    · have := Option.some.inj t; omega
    · cases t
  · rw [if_neg q] at s; exact s)
theorem Needs.small {R C h : Int} {kv : Own} {n : Nat} (a : Needs R C h kv n) : n ≤ (cells R C).length := by
  obtain ⟨cs, i, e⟩ := a.has
  rw [← e]
  exact Nat.le_trans (List.length_filter_le _ _) (pigeon cs _ i.nd fun c m => mem_cells.mpr (i.ok c m).1)
/-! ### promises of the laws -/
def NeedForm (H : Hp) (p : Addr) : Prop := (∃ l, H p = some (.tup [.str "shut", .ref l])) ∨ ∃ (n : Nat) (l a : Addr), H p = some (.tup [.str "need", .int (n : Int), .ref l, .ref a])
def sp_law_need_form (_ : PySem.W.Frag) (_ : Ad) : Sp := fun vs H Q _ => ∃ p, vs = [.ref p] ∧ NeedForm H p ∧ Q (.bl true) H
def sp_law_number2 (_ : PySem.W.Frag) (D : Ad) : Sp := fun vs H Q _ => ∃ b d R C kv h, vs = [.ref b, .int h] ∧ BoardAt D H b d R C kv ∧ Hand h ∧ ∀ z, NumIs R C h kv z → Keep H (.int z) Q
theorem str_ne : ¬ (V.str "need" = V.str "shut") := fun z => absurd (V.str.inj z) (by decide +kernel)
/-- what need tells, whichever -/
theorem NeedOr.of {H : Hp} {R C h : Int} {kv : Own} {Q : VK} (k : ∀ (p : Addr) (H' : Hp), Same H H' → H p = none →
    ((¬ Joined R C h (Open kv h) ∧ ∃ (l : Addr) (us : List V) (cs : List Cell), H l = none ∧ H' p = some (.tup [.str "shut", .ref l]) ∧ H' l = some (.lst us) ∧ Cells H' us cs ∧ IsChain R C (3 - h) (Owns kv (3 - h)) cs) ∨
     ∃ n, Needs R C h kv n ∧ ∃ (l a : Addr) (us bl : List V) (cs : List Cell) (bss : List (List Cell)) (far : Far), H l = none ∧ H a = none ∧ l ≠ a ∧ H' p = some (.tup [.str "need", .int (n : Int), .ref l, .ref a]) ∧ H' l = some (.lst us) ∧ Cells H' us cs ∧ IsChain R C h (Open kv h) cs ∧ (cs.filter (SC.emp kv)).length = n ∧
      H' a = some (.lst bl) ∧ Paired (LstAt H') bl bss ∧ bss.length = n ∧ ∀ i ds, bss[i]? = some ds → IsChain R C (3 - h) (Belt kv h far (i + 1)) ds) → Q (.ref p) H') : NeedOr H R C h kv Q :=
  ⟨fun n p l us cs H' s np nl h1 h2 h3 i => k p H' s np (.inl ⟨n, l, us, cs, nl, h1, h2, h3, i⟩),
   fun n hn p l a us bl cs bss far H' s np nl na ne h1 h2 h3 i e h4 h5 h6 h7 => k p H' s np (.inr ⟨n, hn, l, a, us, bl, cs, bss, far, nl, na, ne, h1, h2, h3, i, e, h4, h5, h6, h7⟩)⟩
end SC
namespace SC
open PySem PyProof.Rows L2

/-! ### texts -/
abbrev TX (l : List Nat) : Str := ⟨l.toArray⟩
theorem tx_cat (a b : List Nat) : TX a ++ TX b = TX (a ++ b) := SX.S_cat a b
theorem tx_len (a : List Nat) : (TX a).length = a.length := SX.S_len a
theorem tx_inj {a b : List Nat} (h : TX a = TX b) : a = b := SX.S_inj h
theorem tx_list (a : List Nat) : (TX a).cps.toList = a := rfl
theorem lit_signs : (".12" : Str) = TX [46, 49, 50] := by decide +kernel
theorem lit_nl : ("\n" : Str) = TX [10] := by decide +kernel
theorem lit_dot : ("." : Str) = TX [46] := by decide +kernel
theorem lit_e : ("" : Str) = TX [] := by decide +kernel
/-- the lines of a text -/
def lns (a : List Nat) : List (List Nat) := TL.spl [10] 0 [] a
theorem split_lns (a : List Nat) : Txt.split (TX a) (TX [10]) = (lns a).map TX := SX.split_S (by decide) (by decide)
/-- the sign of an owner -/
def sgn (i : Int) : Nat := if i = 0 then 46 else if i = 1 then 49 else 50
def isSgn (c : Nat) : Prop := c = 46 ∨ c = 49 ∨ c = 50
instance (c : Nat) : Decidable (isSgn c) := by unfold isSgn; infer_instance
theorem sgn_at {i : Int} (h : i = 0 ∨ i = 1 ∨ i = 2) : atI (".12" : Str).cps.toList i = some (sgn i) := by
  rw [lit_signs]
  rcases h with rfl | rfl | rfl <;> rfl
/-- the owner of a sign -/
def own? (c : Nat) : Option Int := if c = 49 then some 1 else if c = 50 then some 2 else none
theorem BOk.ow3 {R C : Int} {kv : Own} (k : BOk R C kv) (c : Cell) : ow kv c = 0 ∨ ow kv c = 1 ∨ ow kv c = 2 := by
  rcases k.ow_hand c with ⟨e, _⟩ | ⟨e, _⟩
  · exact .inl e
  · exact .inr e
theorem own_sgn {R C : Int} {kv : Own} (k : BOk R C kv) (c : Cell) : own? (sgn (ow kv c)) = lk kv c := by
  rcases k.ow_hand c with ⟨e, n⟩ | ⟨e, n⟩
  · rw [e, n]; rfl
  · rw [n]
    rcases e with e | e <;> rw [e] <;> rfl
/-- the text of a board -/
def bit (C : Int) (f : Cell → Int) (c : Cell) : List Nat := sgn (f c) :: if c.2 = C - 1 then [10] else []
def text (R C : Int) (f : Cell → Int) : List Nat := (cells R C).flatMap (bit C f)
def rowC (C : Nat) (r : Nat) : List Cell := (List.range C).map fun (c : Nat) => (((r : Nat) : Int), ((c : Nat) : Int))
def rowT (C : Nat) (f : Cell → Int) (r : Nat) : List Nat := (List.range C).map fun (c : Nat) => sgn (f (((r : Nat) : Int), ((c : Nat) : Int)))
theorem row_part (C : Int) (f : Cell → Int) (r : Nat) : ∀ n : Nat, (n : Int) < C → ((List.range n).map fun (c : Nat) => (((r : Nat) : Int), ((c : Nat) : Int))).flatMap (bit C f) = (List.range n).map fun (c : Nat) => sgn (f (((r : Nat) : Int), ((c : Nat) : Int)))
  | 0, _ => rfl
  | n + 1, h => by
    rw [List.range_succ, List.map_append, List.flatMap_append, row_part C f r n (by omega), List.map_append]
    congr 1
    show bit C f (((r : Nat) : Int), ((n : Nat) : Int)) ++ [] = _
    unfold bit
    rw [if_neg (by dsimp only; omega), List.append_nil]
    rfl
theorem row_text {C : Int} (hC : 1 ≤ C) (f : Cell → Int) (r : Nat) : (rowC C.toNat r).flatMap (bit C f) = rowT C.toNat f r ++ [10] := by
  obtain ⟨n, hn⟩ : ∃ n : Nat, C = n + 1 := ⟨(C - 1).toNat, by omega⟩
  have e : C.toNat = n + 1 := by omega
  unfold rowC rowT
  rw [e, List.range_succ, List.map_append, List.flatMap_append, row_part C f r n (by omega), List.map_append, List.append_assoc]
  congr 1
  show bit C f (((r : Nat) : Int), ((n : Nat) : Int)) ++ [] = _
  unfold bit
  rw [if_pos (by dsimp only; omega), List.append_nil]
  rfl
theorem cellsN_rows (R C : Nat) : cellsN R C = (List.range R).flatMap (rowC C) := rfl
theorem text_rows {R C : Int} (hC : 1 ≤ C) (f : Cell → Int) : text R C f = (List.range R.toNat).flatMap fun r => rowT C.toNat f r ++ [10] := by
  unfold text cells
  rw [cellsN_rows, List.flatMap_assoc]
  congr 1
  funext r
  exact row_text hC f r
theorem rowT_no (C : Nat) (f : Cell → Int) (r : Nat) : 10 ∉ rowT C f r := fun m => by
  obtain ⟨c, _, e⟩ := List.mem_map.mp m
  unfold sgn at e
  split at e
  · omega
  · split at e <;> omega
theorem lns_rows : ∀ rs : List (List Nat), (∀ r ∈ rs, 10 ∉ r) → lns (rs.flatMap fun r => r ++ [10]) = rs ++ [[]]
  | [], _ => rfl
  | r :: rs, h => by
    have ih := lns_rows rs fun x m => h x (List.mem_cons_of_mem _ m)
    unfold lns at ih ⊢
    rw [List.flatMap_cons, List.append_assoc, SX.spl_free _ (by decide) (SX.free_head (sep := []) (h r (List.mem_cons_self ..))), ih]
    rfl
theorem lns_text {R C : Int} (hC : 1 ≤ C) (f : Cell → Int) : lns (text R C f) = (List.range R.toNat).map (rowT C.toNat f) ++ [[]] := by
  rw [text_rows hC]
  have e : ((List.range R.toNat).flatMap fun r => rowT C.toNat f r ++ [10]) = ((List.range R.toNat).map (rowT C.toNat f)).flatMap fun r => r ++ [10] := by
    rw [List.flatMap_map]
  rw [e]
  exact lns_rows _ fun r m => by
    obtain ⟨i, _, rfl⟩ := List.mem_map.mp m
    exact rowT_no _ _ _
theorem text_len {R C : Int} (s : Size R C) (f : Cell → Int) : (text R C f).length ≤ 200 := by
  have h : ∀ l : List Cell, (l.flatMap (bit C f)).length ≤ 2 * l.length := fun l => by
    induction l with
    | nil => exact Nat.le_refl _
    | cons c l ih =>
      rw [List.flatMap_cons, List.length_append, List.length_cons]
      have : (bit C f c).length ≤ 2 := by unfold bit; split <;> simp
      omega
  have := h (cells R C)
  have := cells_small s.2.1 s.2.2.2
  unfold text
  omega

/-! ### what lines write -/
def chr (ls : List (List Nat)) (r c : Nat) : Option Nat := (ls[r]?).bind fun l => l[c]?
/-- the lines write a board of R rows and C columns -/
structure Writes (ls : List (List Nat)) (R C : Int) : Prop where
  sz : Size R C
  n : (ls.length : Int) = R + 1
  last : ls[ls.length - 1]? = some []
  rows : ∀ r : Nat, (r : Int) < R → ∃ l, ls[r]? = some l ∧ (l.length : Int) = C ∧ ∀ c ∈ l, isSgn c
theorem Writes.col {ls : List (List Nat)} {R C : Int} (w : Writes ls R C) : ∃ l, ls[0]? = some l ∧ (l.length : Int) = C := by
  obtain ⟨l, h1, h2, _⟩ := w.rows 0 (by have := w.sz.1; omega)
  exact ⟨l, h1, h2⟩
theorem Writes.uniq {ls : List (List Nat)} {R C R' C' : Int} (w : Writes ls R C) (v : Writes ls R' C') : R = R' ∧ C = C' := by
  obtain ⟨l, h1, h2⟩ := w.col
  obtain ⟨m, h3, h4⟩ := v.col
  rw [h1] at h3
  have := Option.some.inj h3
  subst this
  have := w.n
  have := v.n
  omega
/-- the cells that the lines write -/
def Cellsof (ls : List (List Nat)) (R C : Int) (kv : Own) : Prop := BOk R C kv ∧ ∀ c, B R C c → lk kv c = (chr ls c.1.toNat c.2.toNat).bind own?
/-- the cells are read, up to row i, column j -/
structure Reading (ls : List (List Nat)) (R C : Int) (i j : Nat) (kv : Own) : Prop where
  ok : BOk R C kv
  at' : ∀ c : Cell, lk kv c = if B R C c ∧ (c.1 < i ∨ (c.1 = i ∧ c.2 < j)) then (chr ls c.1.toNat c.2.toNat).bind own? else none
theorem Reading.nil {ls : List (List Nat)} {R C : Int} (s : Size R C) : Reading ls R C 0 0 [] :=
  ⟨BOk.nil s.1 s.2.1 s.2.2.1 s.2.2.2, fun c => by rw [lk_nil, if_neg]; unfold B; omega⟩
theorem Reading.free {ls : List (List Nat)} {R C : Int} {i j : Nat} {kv : Own} (r : Reading ls R C i j kv) : lk kv ((i : Int), (j : Int)) = none := by
  rw [r.at', if_neg]
  dsimp only
  omega
theorem Reading.skip {ls : List (List Nat)} {R C : Int} {i j : Nat} {kv : Own} (r : Reading ls R C i j kv) (e : (chr ls i j).bind own? = none) : Reading ls R C i (j + 1) kv := by
  refine ⟨r.ok, fun c => ?_⟩
  rw [r.at' c]
  by_cases q : c = ((i : Int), (j : Int))
  · subst q
    dsimp only
    rw [if_neg (by omega), Int.toNat_natCast, Int.toNat_natCast, e]
    split <;> rfl
  · have q2 : ¬ (c.1 = i ∧ c.2 = j) := fun z => q (Prod.ext z.1 z.2)
    have e2 : (B R C c ∧ (c.1 < i ∨ (c.1 = i ∧ c.2 < ((j + 1 : Nat) : Int)))) ↔ (B R C c ∧ (c.1 < i ∨ (c.1 = i ∧ c.2 < j))) := by
      constructor
      · rintro ⟨h1, h2⟩; exact ⟨h1, by omega⟩
      · rintro ⟨h1, h2⟩; exact ⟨h1, by omega⟩
    simp only [e2]
theorem Reading.put {ls : List (List Nat)} {R C : Int} {i j : Nat} {kv : Own} (r : Reading ls R C i j kv) (b : B R C ((i : Int), (j : Int))) {v : Int} (hv : Hand v) (e : (chr ls i j).bind own? = some v) : Reading ls R C i (j + 1) (kv ++ [(((i : Int), (j : Int)), v)]) := by
  refine ⟨r.ok.put b hv r.free, fun c => ?_⟩
  rw [lk_snoc _ _ _ _ r.free]
  by_cases q : ((i : Int), (j : Int)) = c
  · subst q
    rw [if_pos rfl]
    dsimp only
    rw [if_pos ⟨b, by omega⟩, Int.toNat_natCast, Int.toNat_natCast, e]
  · rw [if_neg q, r.at' c]
    have q2 : ¬ (c.1 = i ∧ c.2 = j) := fun z => q (Prod.ext z.1.symm z.2.symm)
    have e2 : (B R C c ∧ (c.1 < i ∨ (c.1 = i ∧ c.2 < ((j + 1 : Nat) : Int)))) ↔ (B R C c ∧ (c.1 < i ∨ (c.1 = i ∧ c.2 < j))) := by
      constructor
      · rintro ⟨h1, h2⟩; exact ⟨h1, by omega⟩
      · rintro ⟨h1, h2⟩; exact ⟨h1, by omega⟩
    simp only [e2]
theorem Reading.row {ls : List (List Nat)} {R C : Int} {i j : Nat} {kv : Own} (r : Reading ls R C i j kv) (hj : C ≤ j) : Reading ls R C (i + 1) 0 kv := by
  refine ⟨r.ok, fun c => ?_⟩
  rw [r.at' c]
  have e2 : (B R C c ∧ (c.1 < ((i + 1 : Nat) : Int) ∨ (c.1 = ((i + 1 : Nat) : Int) ∧ c.2 < ((0 : Nat) : Int)))) ↔ (B R C c ∧ (c.1 < i ∨ (c.1 = i ∧ c.2 < j))) := by
    unfold B
    constructor
    · rintro ⟨h1, h2⟩; exact ⟨h1, by omega⟩
    · rintro ⟨h1, h2⟩; exact ⟨h1, by omega⟩
  simp only [e2]
theorem Reading.ends {ls : List (List Nat)} {R C : Int} {i : Nat} {kv : Own} (r : Reading ls R C i 0 kv) (hi : R ≤ i) : Cellsof ls R C kv := by
  refine ⟨r.ok, fun c b => ?_⟩
  rw [r.at' c, if_pos ⟨b, by unfold B at b; omega⟩]
/-- what the text of a board writes -/
theorem writes_text {R C : Int} {kv : Own} (k : BOk R C kv) : Writes (lns (text R C (ow kv))) R C := by
  have s := k.size
  obtain ⟨h1, h2, h3, h4⟩ := id s
  rw [lns_text h3]
  have hl : ((List.range R.toNat).map (rowT C.toNat (ow kv)) ++ [[]]).length = R.toNat + 1 := by simp
  refine ⟨s, by rw [hl]; omega, ?_, fun r hr => ?_⟩
  · rw [hl, List.getElem?_append_right (by simp)]
    simp
  · refine ⟨rowT C.toNat (ow kv) r, ?_, ?_, fun c m => ?_⟩
    · rw [List.getElem?_append_left (by simp; omega), List.getElem?_map, List.getElem?_range (by omega)]
      rfl
    · unfold rowT
      rw [List.length_map, List.length_range]
      omega
    · obtain ⟨x, _, rfl⟩ := List.mem_map.mp m
      unfold isSgn sgn
      split
      · exact .inl rfl
      · split
        · exact .inr (.inl rfl)
        · exact .inr (.inr rfl)
theorem cells_text {R C : Int} {kv kv' : Own} (k : BOk R C kv) (h : Cellsof (lns (text R C (ow kv))) R C kv') : SameOwn kv kv' := fun c => by
  obtain ⟨k2, h2⟩ := h
  by_cases b : B R C c
  · rw [h2 c b, lns_text k.c1]
    unfold B at b
    unfold chr
    rw [List.getElem?_append_left (by simp; omega), List.getElem?_map, List.getElem?_range (by omega)]
    show ((rowT C.toNat (ow kv) c.1.toNat)[c.2.toNat]?).bind own? = _
    unfold rowT
    rw [List.getElem?_map, List.getElem?_range (by omega)]
    show own? (sgn (ow kv (((c.1.toNat : Nat) : Int), ((c.2.toNat : Nat) : Int)))) = _
    rw [show (((c.1.toNat : Nat) : Int), ((c.2.toNat : Nat) : Int)) = c from Prod.ext (by dsimp only; omega) (by dsimp only; omega)]
    exact own_sgn k c
  · rw [k2.out b, k.out b]

/-! ### promises of notes.py -/
def sp_shown (_ : PySem.W.Frag) (D : Ad) : Sp := fun vs H Q _ => ∃ b d R C kv, vs = [.ref b] ∧ BoardAt D H b d R C kv ∧ Keep H (.str (TX (text R C (ow kv)))) Q
def sp_law_text (_ : PySem.W.Frag) (_ : Ad) : Sp := fun vs H Q _ => ∃ (R C : Int) (o : Addr) (ov : Own), vs = [.int R, .int C, .ref o] ∧ OvAt H o ov ∧ BOk R C ov ∧ Keep H (.str (TX (text R C (ow ov)))) Q
def sp_read (_ : PySem.W.Frag) (D : Ad) : Sp := fun vs H Q E => ∃ (a : List Nat), vs = [.str (TX a)] ∧ a.length ≤ 900 ∧ (∀ R C, Writes (lns a) R C → ∀ kv, Cellsof (lns a) R C kv → NewBoard D H R C kv Q) ∧ ((¬ ∃ R C, Writes (lns a) R C) → ∀ H', Same H H' → E (.ref D.eNoBoard) none H')
def sp_law_goes_on (_ : PySem.W.Frag) (D : Ad) : Sp := fun vs H Q _ => ∃ b2 d2 b d R C kv kv2, vs = [.ref b2, .ref b, .str (TX (text R C (ow kv)))] ∧ BoardAt D H b d R C kv ∧ BoardAt D H b2 d2 R C kv2 ∧ SameOwn kv kv2 ∧ Keep H (.bl true) Q
theorem idx1 : Builtin.Str.occurrences (".12" : Str) ⟨#[49]⟩ 0 (".12" : Str).length 1 = [1] := by decide +kernel
theorem idx2 : Builtin.Str.occurrences (".12" : Str) ⟨#[50]⟩ 0 (".12" : Str).length 1 = [2] := by decide +kernel
theorem lns_pos (a : List Nat) : 1 ≤ (lns a).length := by
  have := split_pos (TX a) (TX [10])
  rw [split_lns, List.length_map] at this
  exact this
theorem lns_le (a : List Nat) : (lns a).length ≤ a.length + 2 := by
  have := split_le (TX a) (TX [10])
  rw [split_lns, List.length_map, tx_len] at this
  exact this
theorem lns_short {a l : List Nat} (m : l ∈ lns a) : l.length ≤ a.length := by
  have : TX l ∈ Txt.split (TX a) (TX [10]) := by rw [split_lns]; exact List.mem_map.mpr ⟨l, m, rfl⟩
  have := part_short this
  rw [tx_len, tx_len] at this
  exact this
theorem flat_take {α β : Type} (f : α → List β) (l : List α) (i : Nat) : ((l.take i).flatMap f).length ≤ (l.flatMap f).length := by
  have e : l.flatMap f = (l.take i).flatMap f ++ (l.drop i).flatMap f := by rw [← List.flatMap_append, List.take_append_drop]
  rw [e, List.length_append]
  omega
theorem flat_more {α β : Type} (f : α → List β) {l : List α} {i : Nat} {x : α} (h : l[i]? = some x) : (l.take (i + 1)).flatMap f = (l.take i).flatMap f ++ f x := by
  rw [take_more h, List.flatMap_append]
  simp
theorem tx_one (c : Nat) : (⟨#[c]⟩ : Str) = TX [c] := rfl
theorem signs_len : (".12" : Str).length ≤ sizeLine := by rw [lit_signs, tx_len]; exact small1000 (by decide)
theorem size_of {n : Nat} (h : n ≤ 1000) : n ≤ sizeLine := Nat.le_of_lt (small1000 h)
theorem str_lns (a : List Nat) : (Txt.split (TX a) ("\n" : Str)).map V.str = (lns a).map fun l => V.str (TX l) := by
  rw [lit_nl, split_lns, List.map_map]
  rfl
theorem tx_eq {a b : List Nat} : V.str (TX a) = V.str (TX b) ↔ a = b := ⟨fun h => tx_inj (V.str.inj h), fun h => by rw [h]⟩
theorem at_fin {us : List V} {v : V} (h : us[us.length - 1]? = some v) : atI us (-1) = some v := by
  have hl := (List.getElem?_eq_some_iff.mp h).1
  have e : us = us.take (us.length - 1) ++ [v] := by
    rw [← take_more h, show us.length - 1 + 1 = us.length by omega, List.take_length]
  rw [e]
  exact atI_last _ v
theorem rows_len' (C : Nat) (f : Cell → Int) : ∀ i : Nat, ((List.range i).flatMap fun r => rowT C f r ++ [10]).length = i * (C + 1)
  | 0 => by simp
  | i + 1 => by
    rw [List.range_succ, List.flatMap_append, List.length_append, rows_len' C f i, Nat.succ_mul]
    simp [rowT]
end SC
namespace SC
open PySem PyProof.Rows L2

/-! ### texts times numbers, parts of texts -/
section
variable {X : Cx}
theorem op_rep_str : OpR X (binaryOp .Mult) (fun x y H Q => ∃ z k, x = .str z ∧ y = .int k ∧ z.length ≤ 1000 ∧ 0 ≤ k ∧ k ≤ 1000 ∧ Q (.str (Txt.mul z k)) H) := by
  intro pins s σ H x y v u Q I rx ry h
  obtain ⟨i, j, rfl, rfl, hz, h0, h1, q⟩ := h
  obtain ⟨t, rfl⟩ := rx
  obtain ⟨t', rfl⟩ := ry
  exact PySem.SB.mul (mulOk_of 1000 1000 hz h1 (by omega) (by decide) (by decide)) fun t' k => ⟨.str (Txt.mul i j), H, I.tok _, ⟨_, rfl⟩, q⟩
end
theorem tx_of (z : Str) : z = TX z.cps.toList := by cases z; rfl
theorem mul_len (z : Str) {k : Int} (h : 0 ≤ k) : (((Txt.mul z k).length : Nat) : Int) = (z.length : Int) * k := by
  rw [len_mul, if_neg]
  rw [decide_eq_true_eq]
  omega
theorem cat_len (a b : Str) : (a ++ b).length = a.length + b.length := by
  rw [tx_of a, tx_of b, tx_cat, tx_len, tx_len, tx_len, List.length_append]
theorem cut_le (z : Str) (lo hi : Option Int) : (cutS z lo hi).length ≤ z.length := cutS_length z lo hi
theorem cut_to (z : Str) (k : Nat) : (cutS z none (some (k : Int))).length ≤ k := by
  show (((z.cps.toList.drop (HT.sIx z.length 0 none)).take (HT.sIx z.length z.length (some (k : Int)) - HT.sIx z.length 0 none)).toArray).size ≤ k
  rw [List.size_toArray, List.length_take, HT.sIx_nat]
  omega
theorem size_big {n : Nat} (h : n ≤ 100000) : n ≤ sizeLine := by rw [sizeLine_eq]; omega
theorem one_len (c : Nat) : (⟨#[c]⟩ : Str).length = 1 := rfl
theorem at_in {l : List Nat} {i : Int} (h0 : 0 ≤ i) (h1 : i < l.length) : ∃ c, atI l i = some c := by
  obtain ⟨n, rfl⟩ : ∃ n : Nat, i = n := ⟨i.toNat, by omega⟩
  exact ⟨l[n]'(by omega), atI_nat (List.getElem?_eq_getElem (by omega))⟩
theorem at_inV {l : List V} {i : Int} (h0 : 0 ≤ i) (h1 : i < l.length) : ∃ c, atI l i = some c ∧ c ∈ l := by
  obtain ⟨n, rfl⟩ : ∃ n : Nat, i = n := ⟨i.toNat, by omega⟩
  exact ⟨l[n]'(by omega), atI_nat (List.getElem?_eq_getElem (by omega)), List.getElem_mem _⟩
theorem sign_at {z : Str} {i : Int} {H : Hp} {Q : VK} (h0 : 0 ≤ i) (h1 : i < z.length) (hz : z.length ≤ sizeLine) (k : ∀ c, Q (.str ⟨#[c]⟩) H) : rIxS (.str z) (.int i) H Q := by
  obtain ⟨c, hc⟩ := at_in (l := z.cps.toList) h0 (by rw [Array.length_toList]; exact h1)
  exact ⟨z, i, c, rfl, rfl, hz, hc, k c⟩
theorem find1 : Txt.find (".12" : Str) ⟨#[49]⟩ = 1 := by decide +kernel
theorem find2 : Txt.find (".12" : Str) ⟨#[50]⟩ = 2 := by decide +kernel

/-! ### promises -/
def sp_law_sign_by (_ : PySem.W.Frag) (_ : Ad) : Sp := fun vs H Q _ => ∃ (n : Int), vs = [.int n] ∧ ∀ c, Q (.str ⟨#[c]⟩) H
def sp_law_spoiled (_ : PySem.W.Frag) (_ : Ad) : Sp := fun vs H Q _ => ∃ (z : Str) (n : Int), vs = [.str z, .int n] ∧ 1 ≤ z.length ∧ z.length ≤ 200 ∧ ∀ z' H', z'.length ≤ 900 → Same H H' → Q (.str z') H'
def sp_law_due13 (_ : PySem.W.Frag) (_ : Ad) : Sp := fun vs H Q _ => ∃ (a : List Nat), vs = [.str (TX a)] ∧ a.length ≤ 900 ∧
  (∀ R C, Writes (lns a) R C → ∀ kv, Cellsof (lns a) R C kv → ∀ p o H', Same H H' → H o = none → H' p = some (.tup [.int R, .int C, .ref o]) → OvAt H' o kv → Q (.ref p) H') ∧
  ((¬ ∃ R C, Writes (lns a) R C) → ∀ H', Same H H' → Q .non H')
theorem Cellsof.uniq {ls : List (List Nat)} {R C : Int} {kv kv2 : Own} (h : Cellsof ls R C kv) (h2 : Cellsof ls R C kv2) : SameOwn kv kv2 := fun c => by
  by_cases b : B R C c
  · rw [h.2 c b, h2.2 c b]
  · rw [h.1.out b, h2.1.out b]
theorem two_ok {z a : Str} (h : z.length ≤ 200) (ha : a.length ≤ 200) (lo hi : Option Int) : (cutS z lo hi).length + a.length ≤ sizeLine := size_big (by have := cut_le z lo hi; omega)
theorem two_len {z a : Str} (h : z.length ≤ 200) (ha : a.length ≤ 200) (lo hi : Option Int) : (cutS z lo hi ++ a).length ≤ 400 := by rw [cat_len]; have := cut_le z lo hi; omega
theorem three_ok {z a : Str} (h : z.length ≤ 200) (ha : a.length ≤ 200) (lo hi lo2 hi2 : Option Int) : (cutS z lo hi ++ a).length + (cutS z lo2 hi2).length ≤ sizeLine := size_big (by have := two_len h ha lo hi; have := cut_le z lo2 hi2; omega)
theorem three_len {z a : Str} (h : z.length ≤ 200) (ha : a.length ≤ 200) (lo hi lo2 hi2 : Option Int) : (cutS z lo hi ++ a ++ cutS z lo2 hi2).length ≤ 900 := by rw [cat_len]; have := two_len h ha lo hi; have := cut_le z lo2 hi2; omega
theorem text_pos {R C : Int} (s : Size R C) (f : Cell → Int) : 1 ≤ (text R C f).length := by
  obtain ⟨h1, h2, h3, h4⟩ := s
  rw [text_rows h3, rows_len']
  exact Nat.mul_pos (by omega) (by omega)
theorem cut_small {z : Str} (h : z.length ≤ 200) (lo hi : Option Int) : (cutS z lo hi).length ≤ 200 := Nat.le_trans (cut_le z lo hi) h
end SC
namespace SC
open PySem L2
def top (i : Nat) : Stmt := PySem.Challenge.pw_sidechain_k13_boards_read_or_refused.main.body.getD i (.Pass ⟨0, 0, 0, 0⟩)
def ad0 : Ad := ⟨0, 0, 0, 0, 0, 0, 0, 0, 0, 0⟩
abbrev s_see_hand : Stmt := (top 10)
theorem sc_see_hand : FnScope ["hand"] ["hand"] (defScope s_see_hand) := ⟨rfl, rfl, rfl, by decide +kernel, rfl, by decide +kernel, by decide +kernel⟩
theorem bd_see_hand {K : PySem.W.Frag} {f : Addr} {fd : FuncData} (F : Fun K "see_hand" "see_hand" s_see_hand f fd) : Binds K fd ["hand"] [] := F.binds (ps := ["hand"]) fun _ _ _ _ _ _ us hl => match us, hl with | [_], _ => rfl
abbrev s_B_init : Stmt := (inClass (top 11) 0)
theorem sc_B_init : FnScope ["self", "rows", "columns"] ["self", "rows", "columns"] (defScope s_B_init) := ⟨rfl, rfl, rfl, by decide +kernel, rfl, by decide +kernel, by decide +kernel⟩
theorem bd_B_init {K : PySem.W.Frag} {f : Addr} {fd : FuncData} (F : Fun K "__init__" "Board.__init__" s_B_init f fd) : Binds K fd ["self", "rows", "columns"] [] := F.binds (ps := ["self", "rows", "columns"]) fun _ _ _ _ _ _ us hl => match us, hl with | [_, _, _], _ => rfl
abbrev s_B_rows : Stmt := (inClass (top 11) 1)
theorem sc_B_rows : FnScope ["self"] ["self"] (defScope s_B_rows) := ⟨rfl, rfl, rfl, by decide +kernel, rfl, by decide +kernel, by decide +kernel⟩
theorem bd_B_rows {K : PySem.W.Frag} {f : Addr} {fd : FuncData} (F : Fun K "rows" "Board.rows" s_B_rows f fd) : Binds K fd ["self"] [] := F.binds (ps := ["self"]) fun _ _ _ _ _ _ us hl => match us, hl with | [_], _ => rfl
abbrev s_B_columns : Stmt := (inClass (top 11) 2)
theorem sc_B_columns : FnScope ["self"] ["self"] (defScope s_B_columns) := ⟨rfl, rfl, rfl, by decide +kernel, rfl, by decide +kernel, by decide +kernel⟩
theorem bd_B_columns {K : PySem.W.Frag} {f : Addr} {fd : FuncData} (F : Fun K "columns" "Board.columns" s_B_columns f fd) : Binds K fd ["self"] [] := F.binds (ps := ["self"]) fun _ _ _ _ _ _ us hl => match us, hl with | [_], _ => rfl
abbrev s_B_has : Stmt := (inClass (top 11) 3)
theorem sc_B_has : FnScope ["self", "cell"] ["self", "cell"] (defScope s_B_has) := ⟨rfl, rfl, rfl, by decide +kernel, rfl, by decide +kernel, by decide +kernel⟩
theorem bd_B_has {K : PySem.W.Frag} {f : Addr} {fd : FuncData} (F : Fun K "has" "Board.has" s_B_has f fd) : Binds K fd ["self", "cell"] [] := F.binds (ps := ["self", "cell"]) fun _ _ _ _ _ _ us hl => match us, hl with | [_, _], _ => rfl
abbrev s_B_see_cell : Stmt := (inClass (top 11) 4)
theorem sc_B_see_cell : FnScope ["self", "cell"] ["self", "cell"] (defScope s_B_see_cell) := ⟨rfl, rfl, rfl, by decide +kernel, rfl, by decide +kernel, by decide +kernel⟩
theorem bd_B_see_cell {K : PySem.W.Frag} {f : Addr} {fd : FuncData} (F : Fun K "see_cell" "Board.see_cell" s_B_see_cell f fd) : Binds K fd ["self", "cell"] [] := F.binds (ps := ["self", "cell"]) fun _ _ _ _ _ _ us hl => match us, hl with | [_, _], _ => rfl
abbrev s_B_put : Stmt := (inClass (top 11) 5)
theorem sc_B_put : FnScope ["self", "cell", "hand"] ["self", "cell", "hand"] (defScope s_B_put) := ⟨rfl, rfl, rfl, by decide +kernel, rfl, by decide +kernel, by decide +kernel⟩
theorem bd_B_put {K : PySem.W.Frag} {f : Addr} {fd : FuncData} (F : Fun K "put" "Board.put" s_B_put f fd) : Binds K fd ["self", "cell", "hand"] [] := F.binds (ps := ["self", "cell", "hand"]) fun _ _ _ _ _ _ us hl => match us, hl with | [_, _, _], _ => rfl
abbrev s_B_owner : Stmt := (inClass (top 11) 7)
theorem sc_B_owner : FnScope ["self", "cell"] ["self", "cell"] (defScope s_B_owner) := ⟨rfl, rfl, rfl, by decide +kernel, rfl, by decide +kernel, by decide +kernel⟩
theorem bd_B_owner {K : PySem.W.Frag} {f : Addr} {fd : FuncData} (F : Fun K "owner" "Board.owner" s_B_owner f fd) : Binds K fd ["self", "cell"] [] := F.binds (ps := ["self", "cell"]) fun _ _ _ _ _ _ us hl => match us, hl with | [_, _], _ => rfl
abbrev s_read : Stmt := (top 14)
theorem sc_read : FnScope ["text", "lines", "board", "row", "column"] ["text"] (defScope s_read) := ⟨rfl, rfl, rfl, by decide +kernel, rfl, by decide +kernel, by decide +kernel⟩
theorem bd_read {K : PySem.W.Frag} {f : Addr} {fd : FuncData} (F : Fun K "read" "read" s_read f fd) : Binds K fd ["text"] [] := F.binds (ps := ["text"]) fun _ _ _ _ _ _ us hl => match us, hl with | [_], _ => rfl
abbrev s_law_cell_at : Stmt := (top 16)
theorem sc_law_cell_at : FnScope ["script", "k"] ["script", "k"] (defScope s_law_cell_at) := ⟨rfl, rfl, rfl, by decide +kernel, rfl, by decide +kernel, by decide +kernel⟩
theorem bd_law_cell_at {K : PySem.W.Frag} {f : Addr} {fd : FuncData} (F : Fun K "_law_cell_at" "_law_cell_at" s_law_cell_at f fd) : Binds K fd ["script", "k"] [] := F.binds (ps := ["script", "k"]) fun _ _ _ _ _ _ us hl => match us, hl with | [_, _], _ => rfl
abbrev s_law_whole : Stmt := (top 17)
theorem sc_law_whole : FnScope ["found"] ["found"] (defScope s_law_whole) := ⟨rfl, rfl, rfl, by decide +kernel, rfl, by decide +kernel, by decide +kernel⟩
theorem bd_law_whole {K : PySem.W.Frag} {f : Addr} {fd : FuncData} (F : Fun K "_law_whole" "_law_whole" s_law_whole f fd) : Binds K fd ["found"] [] := F.binds (ps := ["found"]) fun _ _ _ _ _ _ us hl => match us, hl with | [_], _ => rfl
abbrev s_law_owners4 : Stmt := (top 18)
theorem sc_law_owners4 : FnScope ["script", "first", "rows", "columns", "owners", "r", "digits", "c"] ["script", "first", "rows", "columns"] (defScope s_law_owners4) := ⟨rfl, rfl, rfl, by decide +kernel, rfl, by decide +kernel, by decide +kernel⟩
theorem bd_law_owners4 {K : PySem.W.Frag} {f : Addr} {fd : FuncData} (F : Fun K "_law_owners" "_law_owners" s_law_owners4 f fd) : Binds K fd ["script", "first", "rows", "columns"] [] := F.binds (ps := ["script", "first", "rows", "columns"]) fun _ _ _ _ _ _ us hl => match us, hl with | [_, _, _, _], _ => rfl
abbrev s_law_text : Stmt := (top 19)
theorem sc_law_text : FnScope ["rows", "columns", "owners", "text", "r", "c"] ["rows", "columns", "owners"] (defScope s_law_text) := ⟨rfl, rfl, rfl, by decide +kernel, rfl, by decide +kernel, by decide +kernel⟩
theorem bd_law_text {K : PySem.W.Frag} {f : Addr} {fd : FuncData} (F : Fun K "_law_text" "_law_text" s_law_text f fd) : Binds K fd ["rows", "columns", "owners"] [] := F.binds (ps := ["rows", "columns", "owners"]) fun _ _ _ _ _ _ us hl => match us, hl with | [_, _, _], _ => rfl
abbrev s_law_same : Stmt := (top 20)
theorem sc_law_same : FnScope ["board", "rows", "columns", "owners", "r", "c", "found"] ["board", "rows", "columns", "owners"] (defScope s_law_same) := ⟨rfl, rfl, rfl, by decide +kernel, rfl, by decide +kernel, by decide +kernel⟩
theorem bd_law_same {K : PySem.W.Frag} {f : Addr} {fd : FuncData} (F : Fun K "_law_same" "_law_same" s_law_same f fd) : Binds K fd ["board", "rows", "columns", "owners"] [] := F.binds (ps := ["board", "rows", "columns", "owners"]) fun _ _ _ _ _ _ us hl => match us, hl with | [_, _, _, _], _ => rfl
abbrev s_law_sign_by : Stmt := (top 21)
theorem sc_law_sign_by : FnScope ["cell", "some"] ["cell"] (defScope s_law_sign_by) := ⟨rfl, rfl, rfl, by decide +kernel, rfl, by decide +kernel, by decide +kernel⟩
theorem bd_law_sign_by {K : PySem.W.Frag} {f : Addr} {fd : FuncData} (F : Fun K "_law_sign_by" "_law_sign_by" s_law_sign_by f fd) : Binds K fd ["cell"] [] := F.binds (ps := ["cell"]) fun _ _ _ _ _ _ us hl => match us, hl with | [_], _ => rfl
abbrev s_law_spoiled : Stmt := (top 22)
theorem sc_law_spoiled : FnScope ["text", "cell", "place", "rest", "way"] ["text", "cell"] (defScope s_law_spoiled) := ⟨rfl, rfl, rfl, by decide +kernel, rfl, by decide +kernel, by decide +kernel⟩
theorem bd_law_spoiled {K : PySem.W.Frag} {f : Addr} {fd : FuncData} (F : Fun K "_law_spoiled" "_law_spoiled" s_law_spoiled f fd) : Binds K fd ["text", "cell"] [] := F.binds (ps := ["text", "cell"]) fun _ _ _ _ _ _ us hl => match us, hl with | [_, _], _ => rfl
abbrev s_law_due13 : Stmt := (top 23)
theorem sc_law_due13 : FnScope ["text", "lines", "columns", "owners", "r", "c"] ["text"] (defScope s_law_due13) := ⟨rfl, rfl, rfl, by decide +kernel, rfl, by decide +kernel, by decide +kernel⟩
theorem bd_law_due13 {K : PySem.W.Frag} {f : Addr} {fd : FuncData} (F : Fun K "_law_due" "_law_due" s_law_due13 f fd) : Binds K fd ["text"] [] := F.binds (ps := ["text"]) fun _ _ _ _ _ _ us hl => match us, hl with | [_], _ => rfl
abbrev s_law : Stmt := (top 24)
theorem sc_law : FnScope ["script", "rows", "columns", "text", "due", "found", "marks", "e"] ["script"] (defScope s_law) := ⟨rfl, rfl, rfl, by decide +kernel, rfl, by decide +kernel, by decide +kernel⟩
theorem bd_law {K : PySem.W.Frag} {f : Addr} {fd : FuncData} (F : Fun K "law" "law" s_law f fd) : Binds K fd ["script"] [] := F.binds (ps := ["script"]) fun _ _ _ _ _ _ us hl => match us, hl with | [_], _ => rfl
section
variable {P : Program} {w : World} {K : PySem.W.Frag} {mg : Str → Option Value} {base : Heap} {D : Ad}
theorem ok_see_hand {f : Addr} {fd : FuncData} (F : Fun K "see_hand" "see_hand" s_see_hand f fd) (T : Top K mg D) (x_NoHand : XC K mg "NoHand" D.eNoHand) : FnOk P w K mg base (L2.CX P w) 1 f fd ["hand"] (sp_see_hand K D) := by
  refine F.okX sc_see_hand (fun vs H Q E h => ?_) (fun cdv A outer s H vs Q E hr h => ?_)
  · obtain ⟨h0, rfl, hh⟩ := h
    rfl
  · obtain ⟨h0, rfl, hh⟩ := h
    refine ⟨_, (pss_one (ps_if (PW.pt (pw_and (pt_cmpR op_ne (pv 0) pe_int (nomark _)) (pw_and1 (pt_cmpR op_ne (pv 0) pe_int (nomark _))))) (pss_one (ps_rz x_NoHand (takes_of rfl rfl rfl rfl))) pss_nil)), ?_⟩
    obtain ⟨h1, h2⟩ := hh
    refine ⟨_, rfl, rfl, _, rfl, ?_⟩
    refine ifIN (fun e => ?_) (fun e => ?_)
    · refine ⟨_, rfl, rfl, _, rfl, ?_⟩
      refine ifIN (fun e' => ?_) (fun e' => ?_)
      · exact h2 fun z => z.elim e e'
      · exact h1 (.inr e')
    · exact if_f rfl (h1 (.inl e))
theorem ok_B_init {f : Addr} {fd : FuncData} (F : Fun K "__init__" "Board.__init__" s_B_init f fd) (T : Top K mg D) (x_NoBoard : XC K mg "NoBoard" D.eNoBoard) : FnOk P w K mg base (L2.CX P w) 1 f fd ["self", "rows", "columns"] (sp_B_init K D) := by
  refine F.okX sc_B_init (fun vs H Q E h => ?_) (fun cdv A outer s H vs Q E hr h => ?_)
  · obtain ⟨p, dx, r, c, rfl, hh⟩ := h
    rfl
  · obtain ⟨p, dx, r, c, rfl, hh⟩ := h
    refine ⟨_, (pss_cons (ps_if (PW.pt (pw_or (pt_cmpR op_lt (pv 1) pe_int (nomark _)) (pw_or (pt_cmpR op_gt (pv 1) (pe_glob (v := V.int 10) (by rfl) T.g_GREATEST ⟨_, rfl⟩) (nomark _)) (pw_or (pt_cmpR op_lt (pv 2) pe_int (nomark _)) (pw_or1 (pt_cmpR op_gt (pv 2) (pe_glob (v := V.int 10) (by rfl) T.g_GREATEST ⟨_, rfl⟩) (nomark _))))))) (pss_one (ps_rz x_NoBoard (takes_of rfl rfl rfl rfl))) pss_nil)
      (pss_cons (ps_fld (pv 0) (pv 1) rfl)
      (pss_cons (ps_fld (pv 0) (pv 2) rfl)
      (pss_one (ps_fld (pv 0) pe_dnewT rfl))))), ?_⟩
    obtain ⟨hp, h1, h2⟩ := hh
    refine ⟨_, rfl, _, _, rfl, rfl, _, rfl, ?_⟩
    refine ifD (fun e => ?_) (fun e => ?_)
    · exact h1 fun z => by have := z.1; omega
    refine ⟨_, rfl, _, _, rfl, rfl, _, rfl, ?_⟩
    refine ifD (fun e2 => ?_) (fun e2 => ?_)
    · exact h1 fun z => by have := z.2.1; omega
    refine ⟨_, rfl, _, _, rfl, rfl, _, rfl, ?_⟩
    refine ifD (fun e3 => ?_) (fun e3 => ?_)
    · exact h1 fun z => by have := z.2.2.1; omega
    refine ⟨_, rfl, _, _, rfl, rfl, _, rfl, ?_⟩
    refine ifD (fun e4 => ?_) (fun e4 => ?_)
    · exact h1 fun z => by have := z.2.2.2; omega
    have hs : Size r c := ⟨by omega, by omega, by omega, by omega⟩
    refine ⟨_, rfl, _, rfl, p, D.C, dx, _, rfl, hp, T.cl, T.nH, (by show 0 < 1000; decide), ?_⟩
    refine ⟨_, rfl, _, rfl, p, D.C, dx, _, rfl, upd_same, T.cl, T.nW, (by show 1 < 1000; decide), ?_⟩
    intro d hd
    have hpd : p ≠ d := fun z => by subst z; rw [upd_same] at hd; cases hd
    rw [upd_ne hpd.symm, upd_ne hpd.symm] at hd
    refine ⟨_, rfl, p, D.C, dx, _, rfl, by rw [upd_ne hpd]; exact upd_same, T.cl, T.nO, (by show 2 < 1000; decide), ?_⟩
    refine h2 hs d _ hd ⟨⟨dx, Eq.trans upd_same (congrArg (fun l => some (HO.ins D.C dx l)) (fl_mk r c d))⟩, by rw [upd_ne hpd.symm]; exact upd_same, BOk.nil hs.1 hs.2.1 hs.2.2.1 hs.2.2.2⟩ fun b o e hb => ?_
    rw [upd_ne hb, upd_ne (ne_of_none e hd), upd_ne hb, upd_ne hb]
    exact e
theorem ok_B_rows {f : Addr} {fd : FuncData} (F : Fun K "rows" "Board.rows" s_B_rows f fd) (T : Top K mg D) : FnOk P w K mg base (L2.CX P w) 1 f fd ["self"] (sp_B_rows K D) := by
  refine ofX0 (F.ok sc_B_rows (fun vs H Q E h => ?_) (fun cdv A outer s H vs Q E hr h => ?_))
  · obtain ⟨b, d, R, C, kv, rfl, hh⟩ := h
    rfl
  · obtain ⟨b, d, R, C, kv, rfl, hh⟩ := h
    refine ⟨_, (pss_one (ps_ret (pe_fld (pv 0) rfl))), ?_⟩
    obtain ⟨S, k⟩ := hh
    obtain ⟨⟨dx, h1⟩, _⟩ := id S
    exact ⟨_, rfl, b, D.C, dx, _, _, rfl, h1, T.cl, T.nH, fl_H _ _ _, k⟩
theorem ok_B_columns {f : Addr} {fd : FuncData} (F : Fun K "columns" "Board.columns" s_B_columns f fd) (T : Top K mg D) : FnOk P w K mg base (L2.CX P w) 1 f fd ["self"] (sp_B_columns K D) := by
  refine ofX0 (F.ok sc_B_columns (fun vs H Q E h => ?_) (fun cdv A outer s H vs Q E hr h => ?_))
  · obtain ⟨b, d, R, C, kv, rfl, hh⟩ := h
    rfl
  · obtain ⟨b, d, R, C, kv, rfl, hh⟩ := h
    refine ⟨_, (pss_one (ps_ret (pe_fld (pv 0) rfl))), ?_⟩
    obtain ⟨S, k⟩ := hh
    obtain ⟨⟨dx, h1⟩, _⟩ := id S
    exact ⟨_, rfl, b, D.C, dx, _, _, rfl, h1, T.cl, T.nW, fl_W _ _ _, k⟩
theorem ok_B_has {f : Addr} {fd : FuncData} (F : Fun K "has" "Board.has" s_B_has f fd) (T : Top K mg D) : FnOk P w K mg base (L2.CX P w) 1 f fd ["self", "cell"] (sp_B_has K D) := by
  refine ofX0 (F.ok sc_B_has (fun vs H Q E h => ?_) (fun cdv A outer s H vs Q E hr h => ?_))
  · obtain ⟨b, d, R, C, kv, v, c, rfl, hh⟩ := h
    rfl
  · obtain ⟨b, d, R, C, kv, v, c, rfl, hh⟩ := h
    refine ⟨_, (pss_one (ps_ret (pe_and (pe_cmpR op_le pe_int (pe_ix ix_tup (pv 1) pe_int (fun _ _ => rfl)) (nomark _)) (pe_and (pe_cmpR op_lt (pe_ix ix_tup (pv 1) pe_int (fun _ _ => rfl)) (pe_fld (pv 0) rfl) (nomark _)) (pe_and (pe_cmpR op_le pe_int (pe_ix ix_tup (pv 1) pe_int (fun _ _ => rfl)) (nomark _)) (pe_one (pe_cmpR op_lt (pe_ix ix_tup (pv 1) pe_int (fun _ _ => rfl)) (pe_fld (pv 0) rfl) (nomark _)))))))), ?_⟩
    obtain ⟨S, ⟨t, rfl, ht⟩, k⟩ := hh
    obtain ⟨⟨dx, h1⟩, _⟩ := id S
    refine ⟨_, rfl, t, _, _, _, rfl, rfl, SqT.of ht, at0, _, _, rfl, rfl, _, rfl, ifD (fun e1 => ?_) (fun e1 => ?_)⟩
    · refine ⟨_, rfl, t, _, _, _, rfl, rfl, SqT.of ht, at0, _, rfl, b, D.C, dx, _, _, rfl, h1, T.cl, T.nH, fl_H _ _ _, _, _, rfl, rfl, _, rfl, ifD (fun e2 => ?_) (fun e2 => ?_)⟩
      · refine ⟨_, rfl, t, _, _, _, rfl, rfl, SqT.of ht, at1, _, _, rfl, rfl, _, rfl, ifD (fun e3 => ?_) (fun e3 => ?_)⟩
        · refine ⟨_, rfl, t, _, _, _, rfl, rfl, SqT.of ht, at1, _, rfl, b, D.C, dx, _, _, rfl, h1, T.cl, T.nW, fl_W _ _ _, _, _, rfl, rfl, ?_⟩
          have e : decide (B R C c) = decide (c.2 < C) := decide_eq_decide.mpr ⟨fun z => z.2.2.2, fun z => ⟨e1, e2, e3, z⟩⟩
          rw [e] at k
          exact k
        · rw [decide_eq_false fun z => e3 z.2.2.1] at k
          exact k
      · rw [decide_eq_false fun z => e2 z.2.1] at k
        exact k
    · rw [decide_eq_false fun z => e1 z.1] at k
      exact k
theorem ok_B_see_cell {f : Addr} {fd : FuncData} (F : Fun K "see_cell" "Board.see_cell" s_B_see_cell f fd) (T : Top K mg D) (x_NoCell : XC K mg "NoCell" D.eNoCell) (c_B_has : Mt P w K mg base 1 D.C "has" (sp_B_has K D)) : FnOk P w K mg base (L2.CX P w) 2 f fd ["self", "cell"] (sp_B_see_cell K D) := by
  refine F.okX sc_B_see_cell (fun vs H Q E h => ?_) (fun cdv A outer s H vs Q E hr h => ?_)
  · obtain ⟨b, d, R, C, kv, v, c, rfl, hh⟩ := h
    rfl
  · obtain ⟨b, d, R, C, kv, v, c, rfl, hh⟩ := h
    refine ⟨_, (pss_one (ps_if (pt_not (pt_val (pe_mth c_B_has T.cl (pv 0) hr passL (pa_cons (pv 1) pa_nil)))) (pss_one (ps_rz x_NoCell (takes_of rfl rfl rfl rfl))) pss_nil)), ?_⟩
    obtain ⟨S, hv, h1, h2⟩ := hh
    obtain ⟨⟨dx, hb⟩, _⟩ := id S
    refine ⟨_, rfl, b, dx, _, rfl, hb, fl_no _ _ _ (by decide +kernel) (by decide +kernel) (by decide +kernel), _, rfl, b, d, R, C, kv, v, c, rfl, S, hv, _, rfl, ifN (fun e => ?_) (fun e => ?_)⟩
    · exact h2 e
    · exact h1 e
theorem ok_B_put {f : Addr} {fd : FuncData} (F : Fun K "put" "Board.put" s_B_put f fd) (T : Top K mg D) (x_CellTaken : XC K mg "CellTaken" D.eCellTaken) (c_B_see_cell : Mt P w K mg base 2 D.C "see_cell" (sp_B_see_cell K D)) (c_see_hand : Cl P w K mg base 1 "see_hand" (sp_see_hand K D)) : FnOk P w K mg base (L2.CX P w) 3 f fd ["self", "cell", "hand"] (sp_B_put K D) := by
  refine F.okX sc_B_put (fun vs H Q E h => ?_) (fun cdv A outer s H vs Q E hr h => ?_)
  · obtain ⟨b, d, R, C, kv, v, c, h0, rfl, hh⟩ := h
    rfl
  · obtain ⟨b, d, R, C, kv, v, c, h0, rfl, hh⟩ := h
    have hu := hu_of hr
    refine ⟨_, (pss_cons (ps_expr (pe_mth c_B_see_cell T.cl (pv 0) hr (passes_call (takes_of rfl rfl rfl rfl) (fun _ _ _ _ z => z)) (pa_cons (pv 1) pa_nil)))
      (pss_cons (ps_expr (pe_cl c_see_hand hr (passes_call (takes_of rfl rfl rfl rfl) (fun _ _ _ _ z => z)) (pa_cons (pv 2) pa_nil)))
      (pss_cons (ps_if (pt_cmp (pc_din hu (pv 1) (pe_fld (pv 0) rfl))) (pss_one (ps_rz x_CellTaken (takes_of rfl rfl rfl rfl))) pss_nil)
      (pss_one (ps_dput hu (pe_fld (pv 0) rfl) (pv 1) (pv 2) rfl))))), ?_⟩
    obtain ⟨S, hv, h1, h2, h3, h4⟩ := hh
    obtain ⟨⟨dx, hb⟩, hd, hk⟩ := id S
    refine ⟨_, rfl, b, dx, _, rfl, hb, fl_no _ _ _ (by decide +kernel) (by decide +kernel) (by decide +kernel), _, rfl, b, d, R, C, kv, v, c, rfl, S, hv, fun e => ?_, h1⟩
    refine ⟨_, rfl, h0, rfl, fun e2 => ?_, h2 e⟩
    obtain ⟨t, rfl, ht⟩ := hv
    refine ⟨_, rfl, _, rfl, b, D.C, dx, _, _, rfl, hb, T.cl, T.nO, fl_O _ _ _, d, _, rfl, DGet.t (k := key c) hd ht, _, rfl, ?_⟩
    rw [val_dk]
    cases e3 : lk kv c with
    | some z => exact if_t rfl (h3 e e2 (by rw [e3]; exact fun q => nomatch q))
    | none =>
      refine if_f rfl ?_
      refine ⟨_, rfl, _, rfl, b, D.C, dx, _, _, rfl, hb, T.cl, T.nO, fl_O _ _ _, _, rfl, d, _, rfl, DPut.t (k := key c) hd ht (by unfold dk; rw [List.length_map]; exact small1000 (Nat.le_trans hk.few (by decide))), ?_⟩
      have q := h4 e e2 e3
      unfold setD at q
      rw [← put_dk _ _ _ _ e3] at q
      exact q
theorem ok_B_owner {f : Addr} {fd : FuncData} (F : Fun K "owner" "Board.owner" s_B_owner f fd) (T : Top K mg D) (c_B_see_cell : Mt P w K mg base 2 D.C "see_cell" (sp_B_see_cell K D)) : FnOk P w K mg base (L2.CX P w) 3 f fd ["self", "cell"] (sp_B_owner K D) := by
  refine F.okX sc_B_owner (fun vs H Q E h => ?_) (fun cdv A outer s H vs Q E hr h => ?_)
  · obtain ⟨b, d, R, C, kv, v, c, rfl, hh⟩ := h
    rfl
  · obtain ⟨b, d, R, C, kv, v, c, rfl, hh⟩ := h
    have hu := hu_of hr
    refine ⟨_, (pss_cons (ps_expr (pe_mth c_B_see_cell T.cl (pv 0) hr (passes_call (takes_of rfl rfl rfl rfl) (fun _ _ _ _ z => z)) (pa_cons (pv 1) pa_nil)))
      (pss_one (ps_ret (pe_dget2 hu (pe_fld (pv 0) rfl) (pv 1) pe_int ⟨rfl, rfl, rfl, rfl⟩)))), ?_⟩
    obtain ⟨S, hv, h1, h2⟩ := hh
    obtain ⟨⟨dx, hb⟩, hd, hk⟩ := id S
    refine ⟨_, rfl, b, dx, _, rfl, hb, fl_no _ _ _ (by decide +kernel) (by decide +kernel) (by decide +kernel), _, rfl, b, d, R, C, kv, v, c, rfl, S, hv, fun e => ?_, h1⟩
    obtain ⟨t, rfl, ht⟩ := hv
    refine ⟨_, rfl, b, D.C, dx, _, _, rfl, hb, T.cl, T.nO, fl_O _ _ _, d, rfl, .inr ⟨_, .inl hd⟩, _, rfl, _, DGet.t (k := key c) hd ht, ?_⟩
    rw [val_dk]
    have q := h2 e
    unfold ow at q
    cases e3 : lk kv c with
    | none => rw [e3] at q; exact q
    | some z => rw [e3] at q; exact q
theorem ok_law_cell_at {f : Addr} {fd : FuncData} (F : Fun K "_law_cell_at" "_law_cell_at" s_law_cell_at f fd) (T : Top K mg D) : FnOk P w K mg base (L2.CX P w) 1 f fd ["script", "k"] (sp_law_cell_at K D) := by
  refine ofX0 (F.ok sc_law_cell_at (fun vs H Q E h => ?_) (fun cdv A outer s H vs Q E hr h => ?_))
  · obtain ⟨a, ns, j, rfl, hh⟩ := h
    rfl
  · obtain ⟨a, ns, j, rfl, hh⟩ := h
    refine ⟨_, (pss_cons (ps_if (pt_cmpR op_lt (pv 1) (pe_callB (id := "len") call_len_seq (by rfl) T.len (by decide +kernel) (pa_cons (pv 0) pa_nil)) (nomark _)) (pss_one (ps_ret (pe_ix ix_list (pv 0) (pv 1) (fun _ _ => rfl)))) pss_nil)
      (pss_one (ps_ret pe_int))), ?_⟩
    obtain ⟨hS, h0, k⟩ := hh
    refine ⟨_, rfl, _, rfl, a, _, rfl, .inl hS, _, _, rfl, rfl, _, rfl, ifD (fun e => ?_) (fun e => ?_)⟩
    · rw [List.length_map] at e
      have hj : j.toNat < ns.length := by omega
      refine ⟨_, rfl, _, rfl, a, _, _, V.int (item ns j), rfl, rfl, hS, at_of (j := j.toNat) (by omega) ?_, k⟩
      rw [List.getElem?_map, List.getElem?_eq_getElem hj]
      unfold item
      rw [List.getD_eq_getElem?_getD, List.getElem?_eq_getElem hj]
      rfl
    · rw [List.length_map] at e
      have hj : ns.length ≤ j.toNat := by omega
      unfold item at k
      rw [List.getD_eq_getElem?_getD, List.getElem?_eq_none hj] at k
      exact k
theorem ok_law_whole {f : Addr} {fd : FuncData} (F : Fun K "_law_whole" "_law_whole" s_law_whole f fd) (T : Top K mg D) : FnOk P w K mg base (L2.CX P w) 1 f fd ["found"] (sp_law_whole K D) := by
  refine ofX0 (F.ok sc_law_whole (fun vs H Q E h => ?_) (fun cdv A outer s H vs Q E hr h => ?_))
  · obtain ⟨i, rfl, hh⟩ := h
    rfl
  · obtain ⟨i, rfl, hh⟩ := h
    refine ⟨_, (pss_one (ps_ret (pe_and (pe_callB (id := "isinstance") call_isi (by rfl) T.isinstance (by decide +kernel) (pa_cons (pv 0) (pa_cons (pe_ty (n := "int") T.int (by decide +kernel)) pa_nil))) (pe_one (pe_not (pe_callB (id := "isinstance") call_isi (by rfl) T.isinstance (by decide +kernel) (pa_cons (pv 0) (pa_cons (pe_ty (n := "bool") T.bool (by decide +kernel)) pa_nil)))))))), ?_⟩
    exact ⟨_, rfl, _, _, _, _, true, rfl, .ty "int", .base (.int i), kit_ty (by decide +kernel), true, rfl, _, rfl, _, _, _, _, false, rfl, .ty "bool", .base (.int i), kit_ty (by decide +kernel), false, rfl, hh⟩
theorem ok_law_same {f : Addr} {fd : FuncData} (F : Fun K "_law_same" "_law_same" s_law_same f fd) (T : Top K mg D) (c_B_rows : Mt P w K mg base 1 D.C "rows" (sp_B_rows K D)) (c_B_columns : Mt P w K mg base 1 D.C "columns" (sp_B_columns K D)) (c_B_owner : Mt P w K mg base 3 D.C "owner" (sp_B_owner K D)) (c_law_whole : Cl P w K mg base 1 "_law_whole" (sp_law_whole K D)) : FnOk P w K mg base (L2.CX P w) 4 f fd ["board", "rows", "columns", "owners"] (sp_law_same K D) := by
  refine ofX0 (F.ok sc_law_same (fun vs H Q E h => ?_) (fun cdv A outer s H vs Q E hr h => ?_))
  · obtain ⟨b, d, R, C, kv, o, ov, rfl, hh⟩ := h
    rfl
  · obtain ⟨b, d, R, C, kv, o, ov, rfl, hh⟩ := h
    have hu := hu_of hr
    refine ⟨_, (pss_cons (ps_if (PW.pt (pw_or (pt_cmpR op_ne (pe_mth0 c_B_rows T.cl (pv 0) hr passL) (pv 1) (nomark _)) (pw_or1 (pt_cmpR op_ne (pe_mth0 c_B_columns T.cl (pv 0) hr passL) (pv 2) (nomark _))))) (pss_one (ps_ret pe_bl)) pss_nil)
      (pss_cons (ps_for PassesOwn.never rfl (pi_range1 (by rfl) T.range (pa_cons (pv 1) pa_nil)) (pg_name (i := 4) sc_law_same.nd rfl (by first | exact Or.inl rfl | exact Or.inr rfl)) (pss_one (ps_for PassesOwn.never rfl (pi_range1 (by rfl) T.range (pa_cons (pv 2) pa_nil)) (pg_name (i := 5) sc_law_same.nd rfl (by first | exact Or.inl rfl | exact Or.inr rfl)) (pss_cons (ps_set (i := 6) sc_law_same.nd rfl (by first | exact Or.inl rfl | exact Or.inr rfl) (pe_mth c_B_owner T.cl (pv 0) hr passL (pa_cons (pe_tup (pa_cons (pv 4) (pa_cons (pv 5) pa_nil))) pa_nil)))
          (pss_one (ps_if (PW.pt (pw_or (pt_not (pt_val (pe_cl c_law_whole hr passL (pa_cons (pv 6) pa_nil)))) (pw_or1 (pt_cmpR op_ne (pv 6) (pe_dget2 hu (pv 3) (pe_tup (pa_cons (pv 4) (pa_cons (pv 5) pa_nil))) pe_int ⟨rfl, rfl, rfl, rfl⟩) (nomark _))))) (pss_one (ps_ret pe_bl)) pss_nil))))))
      (pss_one (ps_ret pe_bl)))), ?_⟩
    obtain ⟨S, hO, he, k⟩ := hh
    obtain ⟨⟨dx, hb⟩, hd, hk⟩ := id S
    have r1 := hk.r1; have r2 := hk.r2; have c1 := hk.c1; have c2 := hk.c2
    refine ⟨_, rfl, b, dx, _, rfl, hb, fl_no _ _ _ (by decide +kernel) (by decide +kernel) (by decide +kernel), b, d, R, C, kv, rfl, S, _, rfl, rfl, _, rfl, ifIN (fun e => absurd rfl e) (fun _ => ?_)⟩
    refine ⟨_, rfl, b, dx, _, rfl, hb, fl_no _ _ _ (by decide +kernel) (by decide +kernel) (by decide +kernel), b, d, R, C, kv, rfl, S, _, rfl, rfl, _, rfl, ifIN (fun e => absurd rfl e) (fun _ => ?_)⟩
    refine ⟨_, rfl, R, rfl, by omega, by omega, for_range (lo := 0) (n := R.toNat) (fun i σ H2 => ∃ v4 v5 v6, σ = [some (.ref b), some (.int R), some (.int C), some (.ref o), v4, v5, v6] ∧ Same H H2) ⟨none, none, none, rfl, Same.refl _⟩ ?_ ?_⟩
    · rintro i σ H2 hi ⟨v4, v5, v6, rfl, s2⟩
      refine ⟨_, rfl, C, rfl, by omega, by omega, for_range (lo := 0) (n := C.toNat) (fun j σ H2 => ∃ v5 v6, σ = [some (.ref b), some (.int R), some (.int C), some (.ref o), some (.int (0 + (i : Int))), v5, v6] ∧ Same H H2) ⟨_, _, rfl, s2⟩ ?_ ?_⟩
      · rintro j σ H3 hj ⟨v5, v6, rfl, s3⟩
        have hB : B R C ((i : Int), (j : Int)) := ⟨by dsimp only; omega, by dsimp only; omega, by dsimp only; omega, by dsimp only; omega⟩
        refine ⟨_, rfl, b, dx, _, rfl, s3 _ _ hb, fl_no _ _ _ (by decide +kernel) (by decide +kernel) (by decide +kernel), _, rfl, _, rfl, szl, fun p np => ?_⟩
        have sp := s3.trans (same_upd (o := .tup [V.int (0 + (i : Int)), V.int (0 + (j : Int))]) np)
        refine ⟨b, d, R, C, kv, .ref p, ((i : Int), (j : Int)), rfl, S.same sp, ⟨p, rfl, by rw [upd_same, Int.zero_add, Int.zero_add]⟩, fun e => absurd hB e, fun _ => ?_⟩
        refine ⟨_, rfl, _, rfl, true, rfl, ?_⟩
        refine ⟨_, rfl, _, rfl, o, rfl, .inr ⟨_, .inl (sp _ _ hO)⟩, _, rfl, _, rfl, szl, fun p2 np2 => ?_⟩
        have sp2 := sp.trans (same_upd (o := .tup [V.int (0 + (i : Int)), V.int (0 + (j : Int))]) np2)
        refine ⟨_, DGet.t (k := key ((i : Int), (j : Int))) (sp2 _ _ hO) (by rw [upd_same, Int.zero_add, Int.zero_add]; rfl), ?_⟩
        have ee := he _ hB
        unfold ow at ee
        unfold ow
        rw [val_dk]
        cases e3 : lk ov ((i : Int), (j : Int)) with
        | none =>
          rw [e3] at ee
          exact ⟨rfl, _, rfl, ifIN (fun e => absurd ee e) fun _ => ⟨_, _, rfl, sp2⟩⟩
        | some z =>
          rw [e3] at ee
          exact ⟨rfl, _, rfl, ifIN (fun e => absurd ee e) fun _ => ⟨_, _, rfl, sp2⟩⟩
      · rintro σ H3 ⟨v5, v6, rfl, s3⟩
        exact ⟨_, _, _, rfl, s3⟩
    · rintro σ H2 ⟨v4, v5, v6, rfl, s2⟩
      exact k H2 s2
theorem ok_read {f : Addr} {fd : FuncData} (F : Fun K "read" "read" s_read f fd) (T : Top K mg D) (x_NoBoard : XC K mg "NoBoard" D.eNoBoard) (g_SIGNS : mg "SIGNS" = some (.str ".12" D.tS)) (c_B_init : Mkr P w K mg base 1 "Board" D.C (sp_B_init K D)) (c_B_put : Mt P w K mg base 3 D.C "put" (sp_B_put K D)) : FnOk P w K mg base (L2.CX P w) 4 f fd ["text"] (sp_read K D) := by
  refine F.okX sc_read (fun vs H Q E h => ?_) (fun cdv A outer s H vs Q E hr h => ?_)
  · obtain ⟨a, rfl, hh⟩ := h
    rfl
  · obtain ⟨a, rfl, hh⟩ := h
    refine ⟨_, (pss_cons (ps_set (i := 1) sc_read.nd rfl (by first | exact Or.inl rfl | exact Or.inr rfl) (pe_split (pv 0) pe_str))
      (pss_cons (ps_if (pt_cmpR op_ne (pe_ix ix_list (pv 1) (pe_un un_neg pe_int) (fun _ _ => rfl)) pe_str (nomark _)) (pss_one (ps_rz x_NoBoard (takes_of rfl rfl rfl rfl))) pss_nil)
      (pss_cons (ps_set (i := 2) sc_read.nd rfl (by first | exact Or.inl rfl | exact Or.inr rfl) (pe_mkr c_B_init hr (passes_call (takes_of rfl rfl rfl rfl) (fun _ _ _ _ z => z)) (pa_cons (pe_op op_sub (pe_callB (id := "len") call_len_seq (by rfl) T.len (by decide +kernel) (pa_cons (pv 1) pa_nil)) pe_int) (pa_cons (pe_callB (id := "len") call_len_str (by rfl) T.len (by decide +kernel) (pa_cons (pe_ix ix_list (pv 1) pe_int (fun _ _ => rfl)) pa_nil)) pa_nil))))
      (pss_cons (ps_for (passes_of rfl) rfl (pi_range1 (by rfl) T.range (pa_cons (pe_op op_sub (pe_callB (id := "len") call_len_seq (by rfl) T.len (by decide +kernel) (pa_cons (pv 1) pa_nil)) pe_int) pa_nil)) (pg_name (i := 3) sc_read.nd rfl (by first | exact Or.inl rfl | exact Or.inr rfl)) (pss_cons (ps_if (pt_cmpR op_ne (pe_callB (id := "len") call_len_str (by rfl) T.len (by decide +kernel) (pa_cons (pe_ix ix_list (pv 1) (pv 3) (fun _ _ => rfl)) pa_nil)) (pe_callB (id := "len") call_len_str (by rfl) T.len (by decide +kernel) (pa_cons (pe_ix ix_list (pv 1) pe_int (fun _ _ => rfl)) pa_nil)) (nomark _)) (pss_one (ps_rz x_NoBoard (takes_of rfl rfl rfl rfl))) pss_nil)
        (pss_one (ps_for (passes_of rfl) rfl (pi_range1 (by rfl) T.range (pa_cons (pe_callB (id := "len") call_len_str (by rfl) T.len (by decide +kernel) (pa_cons (pe_ix ix_list (pv 1) (pv 3) (fun _ _ => rfl)) pa_nil)) pa_nil)) (pg_name (i := 4) sc_read.nd rfl (by first | exact Or.inl rfl | exact Or.inr rfl)) (pss_cons (ps_if (pt_cmpR op_notIn_sign (pe_ix ix_str (pe_ix ix_list (pv 1) (pv 3) (fun _ _ => rfl)) (pv 4) (fun _ _ => rfl)) (pe_glob (v := V.str ".12") (by rfl) g_SIGNS ⟨_, rfl⟩) (by rfl)) (pss_one (ps_rz x_NoBoard (takes_of rfl rfl rfl rfl))) pss_nil)
          (pss_one (ps_if (pt_cmpR op_ne (pe_ix ix_str (pe_ix ix_list (pv 1) (pv 3) (fun _ _ => rfl)) (pv 4) (fun _ _ => rfl)) pe_str (nomark _)) (pss_one (ps_expr (pe_mth c_B_put T.cl (pv 2) hr (passes_call (takes_of rfl rfl rfl rfl) (fun _ _ _ _ z => z)) (pa_cons (pe_tup (pa_cons (pv 3) (pa_cons (pv 4) pa_nil))) (pa_cons (pe_bm PySem.F.plainAttrs_str PySem.F.slot_str_index PySem.F.type_str_index mt_sindex (pe_glob (v := V.str ".12") (by rfl) g_SIGNS ⟨_, rfl⟩) (pa_cons (pe_ix ix_str (pe_ix ix_list (pv 1) (pv 3) (fun _ _ => rfl)) (pv 4) (fun _ _ => rfl)) pa_nil)) pa_nil))))) pss_nil)))))))
      (pss_one (ps_ret (pv 2))))))), ?_⟩
    obtain ⟨hlen, k1, k2⟩ := hh
    refine ⟨_, rfl, ⟨_, rfl⟩, _, _, rfl, rfl, rfl, size_of (by rw [tx_len]; omega), fun L nL => ?_⟩
    rw [str_lns]
    have s1 := same_upd (o := .lst ((lns a).map fun l => V.str (TX l))) nL
    have hL : upd H L (.lst ((lns a).map fun l => V.str (TX l))) L = some (.lst ((lns a).map fun l => V.str (TX l))) := upd_same
    generalize upd H L (.lst ((lns a).map fun l => V.str (TX l))) = H1 at s1 hL
    have hp := lns_pos a
    have hle := lns_le a
    have hsh : ∀ l ∈ lns a, l.length ≤ 1000 := fun l m => by have := lns_short m; omega
    generalize lns a = ls at hL hp hle hsh k1 k2
    have hat : ∀ (r : Nat) (l : List Nat), ls[r]? = some l → (ls.map fun l => V.str (TX l))[r]? = some (V.str (TX l)) := fun r l e => by rw [List.getElem?_map, e]; rfl
    obtain ⟨z, hz⟩ : ∃ z, ls[ls.length - 1]? = some z := ⟨_, List.getElem?_eq_getElem (by omega)⟩
    obtain ⟨l0, hl0⟩ : ∃ z, ls[0]? = some z := ⟨_, List.getElem?_eq_getElem (by omega)⟩
    have hul : (ls.map fun l => V.str (TX l)).length = ls.length := List.length_map _
    generalize hus : (ls.map fun l => V.str (TX l)) = us at hL hat hul
    refine ⟨_, rfl, _, rfl, L, _, _, V.str (TX z), rfl, rfl, SqL.of hL, at_fin (by rw [hul]; exact hat _ _ hz), rfl, _, rfl, ifN (fun e => ?_) (fun e => ?_)⟩
    · refine k2 (fun ⟨R, C, w⟩ => e ?_) _ s1
      have := w.last
      rw [hz] at this
      rw [Option.some.inj this, ← lit_e]
    have hz0 : z = [] := by rw [lit_e] at e; exact tx_eq.mp e
    subst hz0
    have hl0s := hsh l0 (List.mem_of_getElem? hl0)
    refine ⟨_, rfl, L, _, rfl, .inl (SqL.of hL), _, _, rfl, rfl, _, rfl, L, _, _, V.str (TX l0), rfl, rfl, SqL.of hL, at_of (j := 0) rfl (hat _ _ hl0), TX l0, rfl, size_of (by rw [tx_len]; exact hl0s), fun b dx nb ndx hne => ?_⟩
    have hRe : ∃ R : Int, R = ((us.length : Nat) : Int) - 1 := ⟨_, rfl⟩
    obtain ⟨R, hR⟩ := hRe
    have hCe : ∃ C : Int, C = (((TX l0).length : Nat) : Int) := ⟨_, rfl⟩
    obtain ⟨C, hC⟩ := hCe
    dsimp only
    rw [← hR, ← hC]
    rw [tx_len] at hC
    rw [hul] at hR
    have only : ∀ {R' C' : Int}, Writes ls R' C' → R' = R ∧ C' = C := fun {R' C'} w => by
      obtain ⟨l, h1, h2⟩ := w.col
      rw [hl0] at h1
      have := Option.some.inj h1
      subst this
      have := w.n
      exact ⟨by omega, by omega⟩
    refine ⟨b, dx, R, C, rfl, upd_same, fun hns => ?_, fun hs d H2 nd S keep => ⟨rfl, ?_⟩⟩
    · refine k2 (fun ⟨R', C', w⟩ => ?_) _ (fun x u e => ?_)
      · obtain ⟨rfl, rfl⟩ := only w
        exact hns w.sz
      · have e1 := s1 _ _ e
        rw [upd_ne (ne_of_none e1 nb), upd_ne (ne_of_none e1 ndx)]
        exact e1
    have s2 := made nb ndx keep
    have nd0 : H1 d = none := made_free nd
    obtain ⟨z1, z2, z3, z4⟩ := id hs
    have fails : ∀ {H' : Hp}, Same H1 H' → (∀ {R' C'}, Writes ls R' C' → False) → E (.ref D.eNoBoard) none H' := fun {H'} s n => k2 (fun ⟨R', C', w⟩ => n w) _ (s1.trans s)
    refine ⟨_, rfl, L, _, rfl, .inl (SqL.of (s2 _ _ hL)), _, _, rfl, rfl, R, by rw [hR, hul], by omega, by omega, ?_⟩
    refine for_range (lo := 0) (n := R.toNat) (fun i σ H3 => ∃ v3 v4 kv, σ = [some (.str (TX a)), some (.ref L), some (.ref b), v3, v4] ∧ Same H1 H3 ∧ BoardAt D H3 b d R C kv ∧ Reading ls R C i 0 kv ∧ ∀ r : Nat, r < i → ∃ l, ls[r]? = some l ∧ (l.length : Int) = C ∧ ∀ c ∈ l, isSgn c)
      ⟨none, none, [], rfl, s2, S, .nil hs, fun r h => absurd h (Nat.not_lt_zero r)⟩ ?_ ?_
    · clear S s2
      rintro i σ H3 hi ⟨v3, v4, kv, rfl, s3, S3, hrd, hgood⟩
      obtain ⟨li, hli⟩ : ∃ z, ls[i]? = some z := ⟨_, List.getElem?_eq_getElem (by omega)⟩
      have hlis := hsh li (List.mem_of_getElem? hli)
      have hL3 := s3 _ _ hL
      refine ⟨_, rfl, _, rfl, L, _, _, V.str (TX li), rfl, rfl, SqL.of hL3, at_of (j := i) (by omega) (hat _ _ hli), TX li, rfl, size_of (by rw [tx_len]; exact hlis), _, rfl, L, _, _, V.str (TX l0), rfl, rfl, SqL.of hL3, at_of (j := 0) rfl (hat _ _ hl0), TX l0, rfl, size_of (by rw [tx_len]; exact hl0s), rfl, _, rfl, ifIN (fun e => ?_) (fun e => ?_)⟩
      · refine fails s3 fun {R' C'} w => ?_
        obtain ⟨rfl, rfl⟩ := only w
        obtain ⟨l, h1, h2, _⟩ := w.rows i (by omega)
        rw [hli] at h1
        have := Option.some.inj h1
        subst this
        rw [tx_len, tx_len] at e
        omega
      rw [tx_len, tx_len] at e
      refine ⟨_, rfl, _, rfl, L, _, _, V.str (TX li), rfl, rfl, SqL.of hL3, at_of (j := i) (by omega) (hat _ _ hli), TX li, rfl, size_of (by rw [tx_len]; exact hlis), ((TX li).length : Int), rfl, by rw [tx_len]; omega, by rw [tx_len]; omega, ?_⟩
      rw [tx_len]
      refine for_range (lo := 0) (n := ((li.length : Nat) : Int).toNat) (fun j σ H4 => ∃ v4 kv, σ = [some (.str (TX a)), some (.ref L), some (.ref b), some (.int (0 + (i : Int))), v4] ∧ Same H1 H4 ∧ BoardAt D H4 b d R C kv ∧ Reading ls R C i j kv ∧ ∀ q : Nat, q < j → ∀ c, li[q]? = some c → isSgn c)
        ⟨v4, kv, rfl, s3, S3, hrd, fun q h => absurd h (Nat.not_lt_zero q)⟩ ?_ ?_
      · clear hrd S3 hL3 s3
        rintro j σ H4 hj ⟨v4, kv, rfl, s4, S4, hrd, hsg⟩
        rw [Int.toNat_natCast] at hj
        obtain ⟨cj, hcj⟩ : ∃ z, li[j]? = some z := ⟨_, List.getElem?_eq_getElem hj⟩
        have hL4 := s4 _ _ hL
        have hB : B R C ((i : Int), (j : Int)) := ⟨by dsimp only; omega, by dsimp only; omega, by dsimp only; omega, by dsimp only; omega⟩
        have hchr : chr ls i j = some cj := by unfold chr; rw [hli]; exact hcj
        have hci : atI (TX li).cps.toList (0 + (j : Int)) = some cj := by
          show atI li (0 + (j : Int)) = some cj
          rw [Int.zero_add]
          exact atI_nat hcj
        refine ⟨_, rfl, _, rfl, L, _, _, V.str (TX li), rfl, rfl, SqL.of hL4, at_of (j := i) (by omega) (hat _ _ hli), _, rfl, _, _, _, rfl, rfl, size_of (by rw [tx_len]; exact hlis), hci, _, _, rfl, rfl, _, rfl, ifN (fun e2 => ?_) (fun e2 => ?_)⟩
        · refine fails s4 fun {R' C'} w => ?_
          obtain ⟨rfl, rfl⟩ := only w
          obtain ⟨l, h1, _, h3⟩ := w.rows i (by omega)
          rw [hli] at h1
          have := Option.some.inj h1
          subst this
          have := h3 cj (List.mem_of_getElem? hcj)
          rw [lit_signs] at e2
          refine e2 ?_
          show cj ∈ [46, 49, 50]
          rcases this with q | q | q <;> simp [q]
        have hs1 : isSgn cj := by
          rw [lit_signs] at e2
          have e2 : cj ∈ [46, 49, 50] := e2
          simpa [isSgn] using e2
        have hsg2 : ∀ q : Nat, q < j + 1 → ∀ c, li[q]? = some c → isSgn c := fun q hq c hc => by
          by_cases e3 : q = j
          · subst e3
            rw [hcj] at hc
            rw [← Option.some.inj hc]
            exact hs1
          · exact hsg q (by omega) c hc
        refine ⟨_, rfl, _, rfl, L, _, _, V.str (TX li), rfl, rfl, SqL.of hL4, at_of (j := i) (by omega) (hat _ _ hli), _, rfl, _, _, _, rfl, rfl, size_of (by rw [tx_len]; exact hlis), hci, rfl, _, rfl, ifN (fun e3 => ?_) (fun e3 => ?_)⟩
        · have hne : cj ≠ 46 := fun q => e3 (by rw [q, lit_dot])
          obtain ⟨⟨dx4, hb4⟩, hd4, _⟩ := id S4
          have put : ∀ (v : Int), Hand v → own? cj = some v → ∀ p : Addr, H4 p = none → Same H1 (setD (upd H4 p (.tup [V.int (0 + (i : Int)), V.int (0 + (j : Int))])) d (kv ++ [(((i : Int), (j : Int)), v)])) ∧ BoardAt D (setD (upd H4 p (.tup [V.int (0 + (i : Int)), V.int (0 + (j : Int))])) d (kv ++ [(((i : Int), (j : Int)), v)])) b d R C (kv ++ [(((i : Int), (j : Int)), v)]) ∧ Reading ls R C i (j + 1) (kv ++ [(((i : Int), (j : Int)), v)]) := fun v hv ho p np => by
            have sp := same_upd (o := .tup [V.int (0 + (i : Int)), V.int (0 + (j : Int))]) np
            have r := hrd.put hB hv (by rw [hchr]; exact ho)
            exact ⟨same_set (s4.trans sp) nd0, (S4.same sp).set r.ok, r⟩
          refine ⟨_, rfl, b, dx4, _, rfl, hb4, fl_no _ _ _ (by decide +kernel) (by decide +kernel) (by decide +kernel), _, rfl, _, rfl, szl, fun p np => ?_⟩
          have sp := same_upd (o := .tup [V.int (0 + (i : Int)), V.int (0 + (j : Int))]) np
          have hL5 := sp _ _ hL4
          have hpp : PairAt (upd H4 p (.tup [V.int (0 + (i : Int)), V.int (0 + (j : Int))])) (.ref p) ((i : Int), (j : Int)) := ⟨p, rfl, by rw [upd_same, Int.zero_add, Int.zero_add]⟩
          rcases hs1 with q | q | q
          · exact absurd q hne
          · subst q
            obtain ⟨u1, u2, u3⟩ := put 1 (.inl rfl) rfl p np
            refine ⟨rfl, _, rfl, _, rfl, L, _, _, V.str (TX li), rfl, rfl, SqL.of hL5, at_of (j := i) (by omega) (hat _ _ hli), _, rfl, _, _, _, rfl, rfl, size_of (by rw [tx_len]; exact hlis), hci, _, _, 1, [], rfl, rfl, idx1, b, d, R, C, kv, .ref p, ((i : Int), (j : Int)), 1, rfl, S4.same sp, hpp, fun e => absurd hB e, fun _ e => absurd (.inl rfl) e, fun _ _ e => absurd hrd.free e, fun _ _ _ => ?_⟩
            exact ⟨_, _, rfl, u1, u2, u3, hsg2⟩
          · subst q
            obtain ⟨u1, u2, u3⟩ := put 2 (.inr rfl) rfl p np
            refine ⟨rfl, _, rfl, _, rfl, L, _, _, V.str (TX li), rfl, rfl, SqL.of hL5, at_of (j := i) (by omega) (hat _ _ hli), _, rfl, _, _, _, rfl, rfl, size_of (by rw [tx_len]; exact hlis), hci, _, _, 2, [], rfl, rfl, idx2, b, d, R, C, kv, .ref p, ((i : Int), (j : Int)), 2, rfl, S4.same sp, hpp, fun e => absurd hB e, fun _ e => absurd (.inr rfl) e, fun _ _ e => absurd hrd.free e, fun _ _ _ => ?_⟩
            exact ⟨_, _, rfl, u1, u2, u3, hsg2⟩
        · have h46 : cj = 46 := by
            rw [lit_dot] at e3
            have := tx_eq.mp (show V.str (TX [cj]) = V.str (TX [46]) from e3)
            exact (List.cons.inj this).1
          refine ⟨_, kv, rfl, s4, S4, hrd.skip (by rw [hchr, h46]; rfl), hsg2⟩
      · rintro σ H4 ⟨v4, kv, rfl, s4, S4, hrd, hsg⟩
        rw [Int.toNat_natCast] at hrd hsg
        refine ⟨_, _, kv, rfl, s4, S4, hrd.row (by omega), fun r hr => ?_⟩
        by_cases q : r = i
        · subst q
          refine ⟨li, hli, by omega, fun c m => ?_⟩
          obtain ⟨q, hq, e4⟩ := List.mem_iff_getElem.mp m
          exact hsg q hq c (List.getElem?_eq_some_iff.mpr ⟨hq, e4⟩)
        · exact hgood r (by omega)
    · rintro σ H3 ⟨v3, v4, kv, rfl, s3, S3, hrd, hgood⟩
      have w : Writes ls R C := ⟨hs, by omega, hz, fun r hr => hgood r (by omega)⟩
      exact ⟨_, rfl, (k1 R C w kv (hrd.ends (by omega))).same s1 b d H3 s3 nb nd0 S3⟩
theorem ok_law_text {f : Addr} {fd : FuncData} (F : Fun K "_law_text" "_law_text" s_law_text f fd) (T : Top K mg D) : FnOk P w K mg base (L2.CX P w) 1 f fd ["rows", "columns", "owners"] (sp_law_text K D) := by
  refine ofX0 (F.ok sc_law_text (fun vs H Q E h => ?_) (fun cdv A outer s H vs Q E hr h => ?_))
  · obtain ⟨R, C, o, ov, rfl, hh⟩ := h
    rfl
  · obtain ⟨R, C, o, ov, rfl, hh⟩ := h
    have hu := hu_of hr
    refine ⟨_, (pss_cons (ps_set (i := 3) sc_law_text.nd rfl (by first | exact Or.inl rfl | exact Or.inr rfl) pe_str)
      (pss_cons (ps_for PassesOwn.never rfl (pi_range1 (by rfl) T.range (pa_cons (pv 0) pa_nil)) (pg_name (i := 4) sc_law_text.nd rfl (by first | exact Or.inl rfl | exact Or.inr rfl)) (pss_cons (ps_for PassesOwn.never rfl (pi_range1 (by rfl) T.range (pa_cons (pv 1) pa_nil)) (pg_name (i := 5) sc_law_text.nd rfl (by first | exact Or.inl rfl | exact Or.inr rfl)) (pss_one (ps_set (i := 3) sc_law_text.nd rfl (by first | exact Or.inl rfl | exact Or.inr rfl) (pe_op op_add_str (pv 3) (pe_ix ix_str pe_str (pe_dget2 hu (pv 2) (pe_tup (pa_cons (pv 4) (pa_cons (pv 5) pa_nil))) pe_int ⟨rfl, rfl, rfl, rfl⟩) (fun _ _ => rfl))))))
        (pss_one (ps_set (i := 3) sc_law_text.nd rfl (by first | exact Or.inl rfl | exact Or.inr rfl) (pe_op op_add_str (pv 3) pe_str)))))
      (pss_one (ps_ret (pv 3))))), ?_⟩
    obtain ⟨hO, hk, k⟩ := hh
    have r1 := hk.r1; have r2 := hk.r2; have c1 := hk.c1; have c2 := hk.c2
    refine ⟨_, rfl, R, rfl, by omega, by omega, for_range (lo := 0) (n := R.toNat) (fun i σ H2 => ∃ t v4 v5, σ = [some (.int R), some (.int C), some (.ref o), some (.str t), v4, v5] ∧ Same H H2 ∧ t = TX ((List.range i).flatMap fun r => rowT C.toNat (ow ov) r ++ [10])) ⟨_, none, none, rfl, .refl _, lit_e⟩ ?_ ?_⟩
    · rintro i σ H2 hi ⟨t, v4, v5, rfl, s2, rfl⟩
      have hrl := rows_len' C.toNat (ow ov) i
      have hrl2 : i * (C.toNat + 1) ≤ 110 := Nat.mul_le_mul (show i ≤ 10 by omega) (show C.toNat + 1 ≤ 11 by omega)
      refine ⟨_, rfl, C, rfl, by omega, by omega, for_range (lo := 0) (n := C.toNat) (fun j σ H3 => ∃ t v5, σ = [some (.int R), some (.int C), some (.ref o), some (.str t), some (.int (0 + (i : Int))), v5] ∧ Same H H3 ∧ t = TX (((List.range i).flatMap fun r => rowT C.toNat (ow ov) r ++ [10]) ++ (List.range j).map fun (c : Nat) => sgn (ow ov (((i : Nat) : Int), ((c : Nat) : Int))))) ⟨_, v5, rfl, s2, by rw [List.range_zero, List.map_nil, List.append_nil]⟩ ?_ ?_⟩
      · rintro j σ H3 hj ⟨t, v5, rfl, s3, rfl⟩
        have hB : B R C ((i : Int), (j : Int)) := ⟨by dsimp only; omega, by dsimp only; omega, by dsimp only; omega, by dsimp only; omega⟩
        refine ⟨_, rfl, _, rfl, o, rfl, .inr ⟨_, .inl (s3 _ _ hO)⟩, _, rfl, _, rfl, szl, fun p np => ?_⟩
        have sp := s3.trans (same_upd (o := .tup [V.int (0 + (i : Int)), V.int (0 + (j : Int))]) np)
        refine ⟨_, DGet.t (k := key ((i : Int), (j : Int))) (sp _ _ hO) (by rw [upd_same, Int.zero_add, Int.zero_add]; rfl), ?_⟩
        have hmap : ((List.range (j + 1)).map fun (c : Nat) => sgn (ow ov (((i : Nat) : Int), ((c : Nat) : Int)))) = ((List.range j).map fun (c : Nat) => sgn (ow ov (((i : Nat) : Int), ((c : Nat) : Int)))) ++ [sgn (ow ov ((i : Int), (j : Int)))] := by
          rw [List.range_succ, List.map_append]; rfl
        have h3 := hk.ow3 ((i : Int), (j : Int))
        rw [val_dk]
        unfold ow at h3
        cases e3 : lk ov ((i : Int), (j : Int)) with
        | none =>
          rw [e3] at h3
          refine ⟨_, _, _, rfl, rfl, signs_len, sgn_at h3, _, _, rfl, rfl, ?_, ?_⟩
          · rw [tx_one, tx_len, tx_len, List.length_append, List.length_map, List.length_range, List.length_singleton]
            exact size_of (by omega)
          · refine ⟨_, _, rfl, sp, ?_⟩
            rw [tx_one, tx_cat, hmap, List.append_assoc]
            unfold ow
            rw [e3]
            rfl
        | some z =>
          rw [e3] at h3
          refine ⟨_, _, _, rfl, rfl, signs_len, sgn_at h3, _, _, rfl, rfl, ?_, ?_⟩
          · rw [tx_one, tx_len, tx_len, List.length_append, List.length_map, List.length_range, List.length_singleton]
            exact size_of (by omega)
          · refine ⟨_, _, rfl, sp, ?_⟩
            rw [tx_one, tx_cat, hmap, List.append_assoc]
            unfold ow
            rw [e3]
            rfl
      · rintro σ H3 ⟨t, v5, rfl, s3, rfl⟩
        refine ⟨_, rfl, _, _, rfl, rfl, ?_, ?_⟩
        · rw [tx_len, lit_nl, tx_len, List.length_append, List.length_map, List.length_range, List.length_singleton]
          exact size_of (by omega)
        · refine ⟨_, _, _, rfl, s3, ?_⟩
          rw [lit_nl, tx_cat, List.range_succ, List.flatMap_append, List.append_assoc]
          congr 2
          simp [rowT]
    · rintro σ H2 ⟨t, v4, v5, rfl, s2, rfl⟩
      refine ⟨_, rfl, ?_⟩
      have e := text_rows hk.c1 (ow ov) (R := R)
      rw [e] at k
      exact k _ s2
theorem ok_law_owners4 {f : Addr} {fd : FuncData} (F : Fun K "_law_owners" "_law_owners" s_law_owners4 f fd) (T : Top K mg D) (c_law_cell_at : Cl P w K mg base 1 "_law_cell_at" (sp_law_cell_at K D)) : FnOk P w K mg base (L2.CX P w) 2 f fd ["script", "first", "rows", "columns"] (sp_law_owners4 K D) := by
  refine ofX0 (F.ok sc_law_owners4 (fun vs H Q E h => ?_) (fun cdv A outer s H vs Q E hr h => ?_))
  · obtain ⟨a, ns, f0, R, C, rfl, hh⟩ := h
    rfl
  · obtain ⟨a, ns, f0, R, C, rfl, hh⟩ := h
    have hu := hu_of hr
    refine ⟨_, (pss_cons (ps_set (i := 4) sc_law_owners4.nd rfl (by first | exact Or.inl rfl | exact Or.inr rfl) pe_dnewT)
      (pss_cons (ps_for PassesOwn.never rfl (pi_range1 (by rfl) T.range (pa_cons (pv 2) pa_nil)) (pg_name (i := 5) sc_law_owners4.nd rfl (by first | exact Or.inl rfl | exact Or.inr rfl)) (pss_cons (ps_set (i := 6) sc_law_owners4.nd rfl (by first | exact Or.inl rfl | exact Or.inr rfl) (pe_cl c_law_cell_at hr passL (pa_cons (pv 0) (pa_cons (pe_op op_add (pv 1) (pv 5)) pa_nil))))
        (pss_one (ps_for PassesOwn.never rfl (pi_range1 (by rfl) T.range (pa_cons (pv 3) pa_nil)) (pg_name (i := 7) sc_law_owners4.nd rfl (by first | exact Or.inl rfl | exact Or.inr rfl)) (pss_cons (ps_if (pt_cmpR op_gt (pe_op op_mod (pv 6) pe_int) pe_int (nomark _)) (pss_one (ps_dput hu (pv 4) (pe_tup (pa_cons (pv 5) (pa_cons (pv 7) pa_nil))) (pe_op op_mod (pv 6) pe_int) rfl)) pss_nil)
          (pss_one (ps_set (i := 6) sc_law_owners4.nd rfl (by first | exact Or.inl rfl | exact Or.inr rfl) (pe_op op_fdiv (pv 6) pe_int))))))))
      (pss_one (ps_ret (pv 4))))), ?_⟩
    obtain ⟨hS, h0, hz, k⟩ := hh
    obtain ⟨z1, z2, z3, z4⟩ := id hz
    refine fun O nO => ?_
    have s1 := same_upd (o := .dT []) nO
    refine ⟨_, rfl, R, rfl, by omega, by omega, for_range (lo := 0) (n := R.toNat) (fun i σ H2 => ∃ v6 v7 v8 ov, σ = [some (.ref a), some (.int f0), some (.int R), some (.int C), some (.ref O), v6, v7, v8] ∧ Same H H2 ∧ OvAt H2 O ov ∧ Filling R C false i 0 ov) ⟨none, none, none, [], rfl, s1, upd_same, .nil hz false⟩ ?_ ?_⟩
    · rintro i σ H2 hi ⟨v6, v7, v8, ov, rfl, s2, hO, hF⟩
      refine ⟨_, rfl, _, rfl, _, rfl, _, _, rfl, rfl, a, ns, f0 + (0 + (i : Int)), rfl, s2.seq hS, by omega, ?_⟩
      refine ⟨_, rfl, C, rfl, by omega, by omega, for_range (lo := 0) (n := C.toNat) (fun j σ H3 => ∃ g v8 ov, σ = [some (.ref a), some (.int f0), some (.int R), some (.int C), some (.ref O), some (.int (0 + (i : Int))), some (.int g), v8] ∧ Same H H3 ∧ OvAt H3 O ov ∧ Filling R C false i j ov) ⟨_, v8, ov, rfl, s2, hO, hF⟩ ?_ ?_⟩
      · clear hO hF s2
        rintro j σ H3 hj ⟨g, v8', ov, rfl, s3, hO, hF⟩
        have hB : (i : Int) < R ∧ (j : Int) < C := ⟨by omega, by omega⟩
        have hl : (dk V.int ov).length < sizeLine := by unfold dk; rw [List.length_map]; exact small1000 (Nat.le_trans hF.ok.few (by decide))
        have put : ∀ (p : Addr) (v : Int), H3 p = none → Hand v → Same H (upd (upd H3 p (.tup [V.int (0 + (i : Int)), V.int (0 + (j : Int))])) O (.dT (putK (dk V.int ov) (key ((i : Int), (j : Int))) (V.int v)))) ∧ OvAt (upd (upd H3 p (.tup [V.int (0 + (i : Int)), V.int (0 + (j : Int))])) O (.dT (putK (dk V.int ov) (key ((i : Int), (j : Int))) (V.int v)))) O (ov ++ [(((i : Int), (j : Int)), v)]) ∧ Filling R C false i (j + 1) (ov ++ [(((i : Int), (j : Int)), v)]) := fun p v np hv =>
          ⟨same_set (s3.trans (same_upd np)) nO, by unfold OvAt; rw [upd_same, put_dk _ _ _ _ hF.free], hF.put hB.1 hB.2 hv⟩
        have hd : ∀ p : Addr, H3 p = none → upd H3 p (.tup [V.int (0 + (i : Int)), V.int (0 + (j : Int))]) O = some (.dT (dk V.int ov)) := fun p np => by rw [upd_ne (ne_of_none hO np)]; exact hO
        have ht : ∀ p : Addr, upd H3 p (.tup [V.int (0 + (i : Int)), V.int (0 + (j : Int))]) p = some (.tup ((key ((i : Int), (j : Int))).map kV)) := fun p => by rw [upd_same, Int.zero_add, Int.zero_add]; rfl
        refine ⟨_, rfl, _, _, rfl, rfl, (by show (0:Int) < 3; decide), _, _, rfl, rfl, _, rfl, ifD (fun e => ?_) (fun e => ?_)⟩
        · have hv : Hand (g % 3) := by unfold Hand; omega
          refine ⟨_, rfl, _, _, rfl, rfl, (by show (0:Int) < 3; decide), _, rfl, _, rfl, _, rfl, szl, fun p np => ?_⟩
          obtain ⟨q1, q2, q3⟩ := put p (g % 3) np hv
          exact ⟨O, _, rfl, DPut.t (k := key ((i : Int), (j : Int))) (hd p np) (ht p) hl, _, rfl, _, _, rfl, rfl, ⟨by decide, by decide⟩, _, _, _, rfl, q1, q2, q3⟩
        · exact ⟨_, rfl, _, _, rfl, rfl, ⟨by decide, by decide⟩, _, _, _, rfl, s3, hO, hF.skip⟩
      · rintro σ H3 ⟨g, v8', ov, rfl, s3, hO, hF⟩
        exact ⟨_, _, _, ov, rfl, s3, hO, hF.row (by omega)⟩
    · rintro σ H2 ⟨v6, v7, v8, ov, rfl, s2, hO, hF⟩
      exact ⟨_, rfl, k O ov H2 s2 nO hO hF.ok (fun e => nomatch e)⟩
theorem ok_law_sign_by {f : Addr} {fd : FuncData} (F : Fun K "_law_sign_by" "_law_sign_by" s_law_sign_by f fd) (T : Top K mg D) : FnOk P w K mg base (L2.CX P w) 1 f fd ["cell"] (sp_law_sign_by K D) := by
  refine ofX0 (F.ok sc_law_sign_by (fun vs H Q E h => ?_) (fun cdv A outer s H vs Q E hr h => ?_))
  · obtain ⟨n, rfl, hh⟩ := h
    rfl
  · obtain ⟨n, rfl, hh⟩ := h
    refine ⟨_, (pss_cons (ps_set (i := 1) sc_law_sign_by.nd rfl (by first | exact Or.inl rfl | exact Or.inr rfl) pe_str)
      (pss_cons (ps_set (i := 1) sc_law_sign_by.nd rfl (by first | exact Or.inl rfl | exact Or.inr rfl) (pe_op op_add_str (pv 1) pe_str))
      (pss_one (ps_ret (pe_ix ix_str (pv 1) (pe_op op_mod (pv 0) pe_int) (fun _ _ => rfl)))))), ?_⟩
    have k := hh
    refine ⟨_, rfl, _, _, rfl, rfl, size_big (by decide +kernel), ?_⟩
    refine ⟨_, rfl, _, rfl, _, _, rfl, rfl, (by show (0 : Int) < 94; decide), ?_⟩
    exact sign_at (Int.emod_nonneg _ (by decide)) (Int.lt_of_lt_of_le (Int.emod_lt_of_pos _ (by decide)) (by decide +kernel)) (size_big (by decide +kernel)) k
theorem ok_law_spoiled {f : Addr} {fd : FuncData} (F : Fun K "_law_spoiled" "_law_spoiled" s_law_spoiled f fd) (T : Top K mg D) (c_law_sign_by : Cl P w K mg base 1 "_law_sign_by" (sp_law_sign_by K D)) : FnOk P w K mg base (L2.CX P w) 2 f fd ["text", "cell"] (sp_law_spoiled K D) := by
  refine ofX0 (F.ok sc_law_spoiled (fun vs H Q E h => ?_) (fun cdv A outer s H vs Q E hr h => ?_))
  · obtain ⟨z, n, rfl, hh⟩ := h
    rfl
  · obtain ⟨z, n, rfl, hh⟩ := h
    refine ⟨_, (pss_cons (ps_set (i := 2) sc_law_spoiled.nd rfl (by first | exact Or.inl rfl | exact Or.inr rfl) (pe_op op_mod (pe_op op_fdiv (pv 1) pe_int) (pe_callB (id := "len") call_len_str (by rfl) T.len (by decide +kernel) (pa_cons (pv 0) pa_nil))))
      (pss_cons (ps_set (i := 3) sc_law_spoiled.nd rfl (by first | exact Or.inl rfl | exact Or.inr rfl) (pe_op op_fdiv (pe_op op_fdiv (pv 1) pe_int) (pe_callB (id := "len") call_len_str (by rfl) T.len (by decide +kernel) (pa_cons (pv 0) pa_nil))))
      (pss_cons (ps_set (i := 4) sc_law_spoiled.nd rfl (by first | exact Or.inl rfl | exact Or.inr rfl) (pe_op op_mod (pv 1) pe_int))
      (pss_cons (ps_if (pt_cmpR op_eq (pv 4) pe_int (nomark _)) (pss_one (ps_ret (pe_op op_add_str (pe_op op_add_str (pe_slice sl_str (pv 0) po_none (po_some (pv 2))) (pe_cl c_law_sign_by hr passL (pa_cons (pv 3) pa_nil))) (pe_slice sl_str (pv 0) (po_some (pv 2)) po_none)))) pss_nil)
      (pss_cons (ps_if (pt_cmpR op_eq (pv 4) pe_int (nomark _)) (pss_one (ps_ret (pe_op op_add_str (pe_op op_add_str (pe_slice sl_str (pv 0) po_none (po_some (pv 2))) (pe_cl c_law_sign_by hr passL (pa_cons (pv 3) pa_nil))) (pe_slice sl_str (pv 0) (po_some (pe_op op_add (pv 2) pe_int)) po_none)))) pss_nil)
      (pss_cons (ps_if (pt_cmpR op_eq (pv 4) pe_int (nomark _)) (pss_one (ps_ret (pe_op op_add_str (pe_op op_add_str (pe_slice sl_str (pv 0) po_none (po_some (pv 2))) pe_str) (pe_slice sl_str (pv 0) (po_some (pv 2)) po_none)))) pss_nil)
      (pss_cons (ps_if (pt_cmpR op_eq (pv 4) pe_int (nomark _)) (pss_one (ps_ret (pe_op op_add_str (pe_slice sl_str (pv 0) po_none (po_some (pv 2))) (pe_slice sl_str (pv 0) (po_some (pe_op op_add (pv 2) pe_int)) po_none)))) pss_nil)
      (pss_cons (ps_if (pt_cmpR op_eq (pv 4) pe_int (nomark _)) (pss_one (ps_ret (pe_slice sl_str (pv 0) po_none (po_some (pe_un un_neg pe_int))))) pss_nil)
      (pss_cons (ps_if (pt_cmpR op_eq (pv 4) pe_int (nomark _)) (pss_one (ps_ret (pe_op op_add_str (pv 0) (pe_slice sl_str (pv 0) po_none (po_some (pe_op op_add (pe_m1 PySem.F.slot_str_find PySem.F.type_str_find mt_find (pv 0) pe_str) pe_int)))))) pss_nil)
      (pss_cons (ps_if (pt_cmpR op_eq (pv 4) pe_int (nomark _)) (pss_one (ps_ret (pe_slice sl_str (pe_op op_rep_str (pe_slice sl_str (pv 0) po_none (po_some (pe_op op_add (pe_m1 PySem.F.slot_str_find PySem.F.type_str_find mt_find (pv 0) pe_str) pe_int))) pe_int) po_none (po_some pe_int)))) pss_nil)
      (pss_cons (ps_if (pt_cmpR op_eq (pv 4) pe_int (nomark _)) (pss_one (ps_ret (pe_op op_add_str pe_str pe_str))) pss_nil)
      (pss_cons (ps_if (pt_cmpR op_eq (pv 4) pe_int (nomark _)) (pss_one (ps_ret (pe_ix ix_list (pe_lst (pa_cons pe_str (pa_cons pe_str (pa_cons pe_str (pa_cons pe_str (pa_cons pe_str pa_nil)))))) (pe_op op_mod (pv 3) pe_int) (fun _ _ => rfl)))) pss_nil)
      (pss_one (ps_ret (pe_op op_add_str (pe_op op_add_str (pe_slice sl_str (pv 0) po_none (po_some (pv 2))) (pe_ix ix_str pe_str (pe_op op_mod (pv 3) pe_int) (fun _ _ => rfl))) (pe_slice sl_str (pv 0) (po_some (pe_op op_add (pv 2) pe_int)) po_none)))))))))))))))), ?_⟩
    obtain ⟨h1, h2, k⟩ := hh
    have sz : z.length ≤ sizeLine := size_big (by omega)
    have one : ∀ c : Nat, (⟨#[c]⟩ : Str).length ≤ 200 := fun c => by rw [one_len]; decide
    refine ⟨_, rfl, _, _, rfl, rfl, ⟨by decide, by decide⟩, _, rfl, z, rfl, sz, _, _, rfl, rfl, (by omega), ?_⟩
    refine ⟨_, rfl, _, _, rfl, rfl, ⟨by decide, by decide⟩, _, rfl, z, rfl, sz, _, _, rfl, rfl, ⟨by omega, by omega⟩, ?_⟩
    refine ⟨_, rfl, _, _, rfl, rfl, (by show (0 : Int) < 11; decide), ?_⟩
    dsimp only
    generalize n / 11 % (z.length : Int) = place
    generalize n / 11 / (z.length : Int) = rest
    generalize n % 11 = way
    refine ⟨_, rfl, rfl, _, rfl, ifI (fun e => ?_) (fun e => ?_)⟩
    · refine ⟨_, rfl, _, rfl, _, rfl, z, rfl, sz, _, rfl, rest, rfl, fun c => ?_⟩
      refine ⟨_, _, rfl, rfl, two_ok h2 (one c) _ _, _, rfl, _, rfl, _, rfl, z, rfl, sz, _, _, rfl, rfl, three_ok h2 (one c) _ _ _ _, ?_⟩
      exact k _ _ (three_len h2 (one c) _ _ _ _) (.refl _)
    refine ⟨_, rfl, rfl, _, rfl, ifI (fun e => ?_) (fun e => ?_)⟩
    · refine ⟨_, rfl, _, rfl, _, rfl, z, rfl, sz, _, rfl, rest, rfl, fun c => ?_⟩
      refine ⟨_, _, rfl, rfl, two_ok h2 (one c) _ _, _, rfl, _, rfl, _, _, rfl, rfl, _, rfl, z, rfl, sz, _, _, rfl, rfl, three_ok h2 (one c) _ _ _ _, ?_⟩
      exact k _ _ (three_len h2 (one c) _ _ _ _) (.refl _)
    refine ⟨_, rfl, rfl, _, rfl, ifI (fun e => ?_) (fun e => ?_)⟩
    · have hn : ("\n" : Str).length ≤ 200 := by decide +kernel
      refine ⟨_, rfl, _, rfl, _, rfl, z, rfl, sz, ?_⟩
      refine ⟨_, _, rfl, rfl, two_ok h2 hn _ _, _, rfl, _, rfl, _, rfl, z, rfl, sz, _, _, rfl, rfl, three_ok h2 hn _ _ _ _, ?_⟩
      exact k _ _ (three_len h2 hn _ _ _ _) (.refl _)
    refine ⟨_, rfl, rfl, _, rfl, ifI (fun e => ?_) (fun e => ?_)⟩
    · refine ⟨_, rfl, _, rfl, _, rfl, z, rfl, sz, _, rfl, _, rfl, _, _, rfl, rfl, _, rfl, z, rfl, sz, _, _, rfl, rfl, two_ok h2 (cut_small h2 _ _) _ _, ?_⟩
      exact k _ _ (Nat.le_trans (two_len h2 (cut_small h2 _ _) _ _) (by decide)) (.refl _)
    refine ⟨_, rfl, rfl, _, rfl, ifI (fun e => ?_) (fun e => ?_)⟩
    · refine ⟨_, rfl, _, rfl, _, rfl, z, rfl, sz, ?_⟩
      exact k _ _ (Nat.le_trans (cut_small h2 _ _) (by decide)) (.refl _)
    refine ⟨_, rfl, rfl, _, rfl, ifI (fun e => ?_) (fun e => ?_)⟩
    · refine ⟨_, rfl, _, rfl, _, rfl, ⟨_, rfl⟩, _, _, rfl, rfl, _, _, rfl, rfl, _, rfl, z, rfl, sz, _, _, rfl, rfl, ?_, ?_⟩
      · exact size_big (by have := cut_small h2 none (some (Txt.find z "\n" + 1)); omega)
      · exact k _ _ (by rw [cat_len]; have := cut_small h2 none (some (Txt.find z "\n" + 1)); omega) (.refl _)
    refine ⟨_, rfl, rfl, _, rfl, ifI (fun e => ?_) (fun e => ?_)⟩
    · have hc := cut_small h2 none (some (Txt.find z "\n" + 1))
      have hm := mul_len (cutS z none (some (Txt.find z "\n" + 1))) (k := 11) (by decide)
      refine ⟨_, rfl, _, rfl, ⟨_, rfl⟩, _, _, rfl, rfl, _, _, rfl, rfl, _, rfl, z, rfl, sz, _, _, rfl, rfl, by omega, by decide, by decide, _, rfl, _, rfl, size_big (by omega), ?_⟩
      exact k _ _ (Nat.le_trans (cut_to _ 400) (by decide)) (.refl _)
    refine ⟨_, rfl, rfl, _, rfl, ifI (fun e => ?_) (fun e => ?_)⟩
    · refine ⟨_, _, rfl, rfl, size_big (by decide +kernel), ?_⟩
      exact k _ _ (by decide +kernel) (.refl _)
    refine ⟨_, rfl, rfl, _, rfl, ifI (fun e => ?_) (fun e => ?_)⟩
    · refine ⟨szl, fun p np => ⟨_, rfl, _, _, rfl, rfl, (by show (0 : Int) < 5; decide), ?_⟩⟩
      obtain ⟨v, hv, hm⟩ := at_inV (l := [V.str "", V.str "\n", V.str "\n\n", V.str "1", V.str "."]) (i := rest % 5) (Int.emod_nonneg _ (by decide)) (Int.emod_lt_of_pos _ (by decide))
      refine ⟨p, _, _, v, rfl, rfl, SqL.of upd_same, hv, ?_⟩
      simp only [List.mem_cons, List.not_mem_nil, or_false] at hm
      rcases hm with rfl | rfl | rfl | rfl | rfl <;> exact k _ _ (by decide +kernel) (same_upd np)
    · obtain ⟨c, hc⟩ := at_in (l := ("012.\n " : Str).cps.toList) (i := rest % 6) (Int.emod_nonneg _ (by decide)) (by
        rw [show ("012.\n " : Str).cps.toList.length = 6 by decide +kernel]
        exact Int.emod_lt_of_pos _ (by decide))
      refine ⟨_, rfl, _, rfl, _, rfl, z, rfl, sz, _, rfl, _, _, rfl, rfl, (by show (0 : Int) < 6; decide), _, _, c, rfl, rfl, size_big (by decide +kernel), hc, ?_⟩
      refine ⟨_, _, rfl, rfl, two_ok h2 (one c) _ _, _, rfl, _, rfl, _, _, rfl, rfl, _, rfl, z, rfl, sz, _, _, rfl, rfl, three_ok h2 (one c) _ _ _ _, ?_⟩
      exact k _ _ (three_len h2 (one c) _ _ _ _) (.refl _)
theorem ok_law_due13 {f : Addr} {fd : FuncData} (F : Fun K "_law_due" "_law_due" s_law_due13 f fd) (T : Top K mg D) : FnOk P w K mg base (L2.CX P w) 1 f fd ["text"] (sp_law_due13 K D) := by
  refine ofX0 (F.ok sc_law_due13 (fun vs H Q E h => ?_) (fun cdv A outer s H vs Q E hr h => ?_))
  · obtain ⟨a, rfl, hh⟩ := h
    rfl
  · obtain ⟨a, rfl, hh⟩ := h
    have hu := hu_of hr
    refine ⟨_, (pss_cons (ps_set (i := 1) sc_law_due13.nd rfl (by first | exact Or.inl rfl | exact Or.inr rfl) (pe_split (pv 0) pe_str))
      (pss_cons (ps_if (PW.pt (pw_or (pt_cmpR op_ne (pe_ix ix_list (pv 1) (pe_un un_neg pe_int) (fun _ _ => rfl)) pe_str (nomark _)) (pw_or (pt_cmpR op_lt (pe_callB (id := "len") call_len_seq (by rfl) T.len (by decide +kernel) (pa_cons (pv 1) pa_nil)) pe_int (nomark _)) (pw_or1 (pt_cmpR op_gt (pe_callB (id := "len") call_len_seq (by rfl) T.len (by decide +kernel) (pa_cons (pv 1) pa_nil)) pe_int (nomark _)))))) (pss_one (ps_ret pe_non)) pss_nil)
      (pss_cons (ps_set (i := 2) sc_law_due13.nd rfl (by first | exact Or.inl rfl | exact Or.inr rfl) (pe_callB (id := "len") call_len_str (by rfl) T.len (by decide +kernel) (pa_cons (pe_ix ix_list (pv 1) pe_int (fun _ _ => rfl)) pa_nil)))
      (pss_cons (ps_if (PW.pt (pw_or (pt_cmpR op_lt (pv 2) pe_int (nomark _)) (pw_or1 (pt_cmpR op_gt (pv 2) pe_int (nomark _))))) (pss_one (ps_ret pe_non)) pss_nil)
      (pss_cons (ps_set (i := 3) sc_law_due13.nd rfl (by first | exact Or.inl rfl | exact Or.inr rfl) pe_dnewT)
      (pss_cons (ps_for PassesOwn.never rfl (pi_range1 (by rfl) T.range (pa_cons (pe_op op_sub (pe_callB (id := "len") call_len_seq (by rfl) T.len (by decide +kernel) (pa_cons (pv 1) pa_nil)) pe_int) pa_nil)) (pg_name (i := 4) sc_law_due13.nd rfl (by first | exact Or.inl rfl | exact Or.inr rfl)) (pss_cons (ps_if (pt_cmpR op_ne (pe_callB (id := "len") call_len_str (by rfl) T.len (by decide +kernel) (pa_cons (pe_ix ix_list (pv 1) (pv 4) (fun _ _ => rfl)) pa_nil)) (pv 2) (nomark _)) (pss_one (ps_ret pe_non)) pss_nil)
        (pss_one (ps_for PassesOwn.never rfl (pi_range1 (by rfl) T.range (pa_cons (pv 2) pa_nil)) (pg_name (i := 5) sc_law_due13.nd rfl (by first | exact Or.inl rfl | exact Or.inr rfl)) (pss_cons (ps_if (pt_cmpR op_notIn_sign (pe_ix ix_str (pe_ix ix_list (pv 1) (pv 4) (fun _ _ => rfl)) (pv 5) (fun _ _ => rfl)) pe_str (by rfl)) (pss_one (ps_ret pe_non)) pss_nil)
          (pss_one (ps_if (pt_cmpR op_ne (pe_ix ix_str (pe_ix ix_list (pv 1) (pv 4) (fun _ _ => rfl)) (pv 5) (fun _ _ => rfl)) pe_str (nomark _)) (pss_one (ps_dput hu (pv 3) (pe_tup (pa_cons (pv 4) (pa_cons (pv 5) pa_nil))) (pe_m1 PySem.F.slot_str_find PySem.F.type_str_find mt_find pe_str (pe_ix ix_str (pe_ix ix_list (pv 1) (pv 4) (fun _ _ => rfl)) (pv 5) (fun _ _ => rfl))) rfl)) pss_nil)))))))
      (pss_one (ps_ret (pe_tup (pa_cons (pe_op op_sub (pe_callB (id := "len") call_len_seq (by rfl) T.len (by decide +kernel) (pa_cons (pv 1) pa_nil)) pe_int) (pa_cons (pv 2) (pa_cons (pv 3) pa_nil)))))))))))), ?_⟩
    obtain ⟨hlen, k1, k2⟩ := hh
    refine ⟨_, rfl, ⟨_, rfl⟩, _, _, rfl, rfl, rfl, size_of (by rw [tx_len]; omega), fun L nL => ?_⟩
    rw [str_lns]
    have s1 := same_upd (o := .lst ((lns a).map fun l => V.str (TX l))) nL
    have hL : upd H L (.lst ((lns a).map fun l => V.str (TX l))) L = some (.lst ((lns a).map fun l => V.str (TX l))) := upd_same
    generalize upd H L (.lst ((lns a).map fun l => V.str (TX l))) = H1 at s1 hL
    have hp := lns_pos a
    have hle := lns_le a
    have hsh : ∀ l ∈ lns a, l.length ≤ 1000 := fun l m => by have := lns_short m; omega
    generalize lns a = ls at hL hp hle hsh k1 k2
    have hat : ∀ (r : Nat) (l : List Nat), ls[r]? = some l → (ls.map fun l => V.str (TX l))[r]? = some (V.str (TX l)) := fun r l e => by rw [List.getElem?_map, e]; rfl
    obtain ⟨z, hz⟩ : ∃ z, ls[ls.length - 1]? = some z := ⟨_, List.getElem?_eq_getElem (by omega)⟩
    obtain ⟨l0, hl0⟩ : ∃ z, ls[0]? = some z := ⟨_, List.getElem?_eq_getElem (by omega)⟩
    have hul : (ls.map fun l => V.str (TX l)).length = ls.length := List.length_map _
    generalize hus : (ls.map fun l => V.str (TX l)) = us at hL hat hul
    refine ⟨_, rfl, _, rfl, L, _, _, V.str (TX z), rfl, rfl, SqL.of hL, at_fin (by rw [hul]; exact hat _ _ hz), rfl, _, rfl, ifN (fun e => ?_) (fun e => ?_)⟩
    · refine k2 (fun ⟨R, C, w⟩ => e ?_) _ s1
      have := w.last
      rw [hz] at this
      rw [Option.some.inj this, ← lit_e]
    have hz0 : z = [] := by rw [lit_e] at e; exact tx_eq.mp e
    subst hz0
    have hl0s := hsh l0 (List.mem_of_getElem? hl0)
    have n2 : ∀ {R C : Int}, Writes ls R C → 2 ≤ ls.length ∧ ls.length ≤ 11 := fun {R C} w => by
      obtain ⟨z1, z2, z3, z4⟩ := w.sz
      have := w.n
      omega
    refine ⟨_, rfl, L, _, rfl, .inl (SqL.of hL), _, _, rfl, rfl, _, rfl, ifD (fun e2 => ?_) (fun e2 => ?_)⟩
    · refine k2 (fun ⟨R, C, w⟩ => ?_) _ s1
      have := n2 w
      omega
    refine ⟨_, rfl, L, _, rfl, .inl (SqL.of hL), _, _, rfl, rfl, _, rfl, ifD (fun e3 => ?_) (fun e3 => ?_)⟩
    · refine k2 (fun ⟨R, C, w⟩ => ?_) _ s1
      have := n2 w
      omega
    refine ⟨_, rfl, L, _, _, V.str (TX l0), rfl, rfl, SqL.of hL, at_of (j := 0) rfl (hat _ _ hl0), TX l0, rfl, size_of (by rw [tx_len]; exact hl0s), ?_⟩
    obtain ⟨R, hR⟩ : ∃ R : Int, R = ((us.length : Nat) : Int) - 1 := ⟨_, rfl⟩
    obtain ⟨C, hC⟩ : ∃ C : Int, C = (((TX l0).length : Nat) : Int) := ⟨_, rfl⟩
    rw [← hC]
    rw [tx_len] at hC
    have hR2 := hR
    rw [hul] at hR
    have only : ∀ {R' C' : Int}, Writes ls R' C' → R' = R ∧ C' = C := fun {R' C'} w => by
      obtain ⟨l, h1, h2⟩ := w.col
      rw [hl0] at h1
      have := Option.some.inj h1
      subst this
      have := w.n
      exact ⟨by omega, by omega⟩
    refine ⟨_, rfl, _, _, rfl, rfl, _, rfl, ifD (fun e4 => ?_) (fun e4 => ?_)⟩
    · refine k2 (fun ⟨R', C', w⟩ => ?_) _ s1
      obtain ⟨rfl, rfl⟩ := only w
      have := w.sz.2.2.1
      omega
    refine ⟨_, rfl, _, _, rfl, rfl, _, rfl, ifD (fun e5 => ?_) (fun e5 => ?_)⟩
    · refine k2 (fun ⟨R', C', w⟩ => ?_) _ s1
      obtain ⟨rfl, rfl⟩ := only w
      have := w.sz.2.2.2
      omega
    have hs : Size R C := ⟨by omega, by omega, by omega, by omega⟩
    obtain ⟨z1, z2, z3, z4⟩ := id hs
    refine fun O nO => ?_
    have sO := same_upd (o := .dT []) nO
    have nO0 : H1 O = none := nO
    have fails : ∀ {H' : Hp}, Same H1 H' → (∀ {R' C'}, Writes ls R' C' → False) → Q .non H' := fun {H'} s n => k2 (fun ⟨R', C', w⟩ => n w) _ (s1.trans s)
    refine ⟨_, rfl, L, _, rfl, .inl (SqL.of (sO _ _ hL)), _, _, rfl, rfl, R, by rw [hR2], by omega, by omega, ?_⟩
    refine for_range (lo := 0) (n := R.toNat) (fun i σ H3 => ∃ v3 v4 kv, σ = [some (.str (TX a)), some (.ref L), some (.int C), some (.ref O), v3, v4] ∧ Same H1 H3 ∧ OvAt H3 O kv ∧ Reading ls R C i 0 kv ∧ ∀ r : Nat, r < i → ∃ l, ls[r]? = some l ∧ (l.length : Int) = C ∧ ∀ c ∈ l, isSgn c)
      ⟨none, none, [], rfl, sO, upd_same, .nil hs, fun r h => absurd h (Nat.not_lt_zero r)⟩ ?_ ?_
    · rintro i σ H3 hi ⟨v3, v4, kv, rfl, s3, S3, hrd, hgood⟩
      obtain ⟨li, hli⟩ : ∃ z, ls[i]? = some z := ⟨_, List.getElem?_eq_getElem (by omega)⟩
      have hlis := hsh li (List.mem_of_getElem? hli)
      have hL3 := s3 _ _ hL
      refine ⟨_, rfl, _, rfl, L, _, _, V.str (TX li), rfl, rfl, SqL.of hL3, at_of (j := i) (by omega) (hat _ _ hli), TX li, rfl, size_of (by rw [tx_len]; exact hlis), _, rfl, rfl, _, rfl, ifIN (fun e => ?_) (fun e => ?_)⟩
      · refine fails s3 fun {R' C'} w => ?_
        obtain ⟨rfl, rfl⟩ := only w
        obtain ⟨l, h1, h2, _⟩ := w.rows i (by omega)
        rw [hli] at h1
        have := Option.some.inj h1
        subst this
        rw [tx_len] at e
        omega
      rw [tx_len] at e
      refine ⟨_, rfl, C, rfl, by omega, by omega, ?_⟩
      refine for_range (lo := 0) (n := C.toNat) (fun j σ H4 => ∃ v4 kv, σ = [some (.str (TX a)), some (.ref L), some (.int C), some (.ref O), some (.int (0 + (i : Int))), v4] ∧ Same H1 H4 ∧ OvAt H4 O kv ∧ Reading ls R C i j kv ∧ ∀ q : Nat, q < j → ∀ c, li[q]? = some c → isSgn c)
        ⟨v4, kv, rfl, s3, S3, hrd, fun q h => absurd h (Nat.not_lt_zero q)⟩ ?_ ?_
      · clear hrd S3 hL3 s3
        rintro j σ H4 hj ⟨v4, kv, rfl, s4, S4, hrd, hsg⟩
        obtain ⟨cj, hcj⟩ : ∃ z, li[j]? = some z := ⟨_, List.getElem?_eq_getElem (by omega)⟩
        have hL4 := s4 _ _ hL
        have hB : B R C ((i : Int), (j : Int)) := ⟨by dsimp only; omega, by dsimp only; omega, by dsimp only; omega, by dsimp only; omega⟩
        have hchr : chr ls i j = some cj := by unfold chr; rw [hli]; exact hcj
        have hci : atI (TX li).cps.toList (0 + (j : Int)) = some cj := by
          show atI li (0 + (j : Int)) = some cj
          rw [Int.zero_add]
          exact atI_nat hcj
        refine ⟨_, rfl, _, rfl, L, _, _, V.str (TX li), rfl, rfl, SqL.of hL4, at_of (j := i) (by omega) (hat _ _ hli), _, rfl, _, _, _, rfl, rfl, size_of (by rw [tx_len]; exact hlis), hci, _, _, rfl, rfl, _, rfl, ifN (fun e2 => ?_) (fun e2 => ?_)⟩
        · refine fails s4 fun {R' C'} w => ?_
          obtain ⟨rfl, rfl⟩ := only w
          obtain ⟨l, h1, _, h3⟩ := w.rows i (by omega)
          rw [hli] at h1
          have := Option.some.inj h1
          subst this
          have := h3 cj (List.mem_of_getElem? hcj)
          rw [lit_signs] at e2
          refine e2 ?_
          show cj ∈ [46, 49, 50]
          rcases this with q | q | q <;> simp [q]
        have hs1 : isSgn cj := by
          rw [lit_signs] at e2
          have e2 : cj ∈ [46, 49, 50] := e2
          simpa [isSgn] using e2
        have hsg2 : ∀ q : Nat, q < j + 1 → ∀ c, li[q]? = some c → isSgn c := fun q hq c hc => by
          by_cases e3 : q = j
          · subst e3
            rw [hcj] at hc
            rw [← Option.some.inj hc]
            exact hs1
          · exact hsg q (by omega) c hc
        refine ⟨_, rfl, _, rfl, L, _, _, V.str (TX li), rfl, rfl, SqL.of hL4, at_of (j := i) (by omega) (hat _ _ hli), _, rfl, _, _, _, rfl, rfl, size_of (by rw [tx_len]; exact hlis), hci, rfl, _, rfl, ifN (fun e3 => ?_) (fun e3 => ?_)⟩
        · have hne : cj ≠ 46 := fun q => e3 (by rw [q, lit_dot])
          have hl : (dk V.int kv).length < sizeLine := by unfold dk; rw [List.length_map]; exact small1000 (Nat.le_trans hrd.ok.few (by decide))
          have put : ∀ (v : Int), Hand v → own? cj = some v → ∀ p : Addr, H4 p = none → Same H1 (upd (upd H4 p (.tup [V.int (0 + (i : Int)), V.int (0 + (j : Int))])) O (.dT (putK (dk V.int kv) (key ((i : Int), (j : Int))) (V.int v)))) ∧ OvAt (upd (upd H4 p (.tup [V.int (0 + (i : Int)), V.int (0 + (j : Int))])) O (.dT (putK (dk V.int kv) (key ((i : Int), (j : Int))) (V.int v)))) O (kv ++ [(((i : Int), (j : Int)), v)]) ∧ Reading ls R C i (j + 1) (kv ++ [(((i : Int), (j : Int)), v)]) := fun v hv ho p np =>
            ⟨same_set (s4.trans (same_upd np)) nO0, by unfold OvAt; rw [upd_same, put_dk _ _ _ _ hrd.free], hrd.put hB hv (by rw [hchr]; exact ho)⟩
          have hd : ∀ p : Addr, H4 p = none → upd H4 p (.tup [V.int (0 + (i : Int)), V.int (0 + (j : Int))]) O = some (.dT (dk V.int kv)) := fun p np => by rw [upd_ne (ne_of_none S4 np)]; exact S4
          have ht : ∀ p : Addr, upd H4 p (.tup [V.int (0 + (i : Int)), V.int (0 + (j : Int))]) p = some (.tup ((key ((i : Int), (j : Int))).map kV)) := fun p => by rw [upd_same, Int.zero_add, Int.zero_add]; rfl
          refine ⟨⟨_, rfl⟩, _, rfl, _, rfl, L, _, _, V.str (TX li), rfl, rfl, SqL.of hL4, at_of (j := i) (by omega) (hat _ _ hli), _, rfl, _, _, _, rfl, rfl, size_of (by rw [tx_len]; exact hlis), hci, _, _, rfl, rfl, ?_⟩
          rcases hs1 with q | q | q
          · exact absurd q hne
          · subst q
            rw [find1]
            refine ⟨_, rfl, _, rfl, _, rfl, szl, fun p np => ?_⟩
            obtain ⟨u1, u2, u3⟩ := put 1 (.inl rfl) rfl p np
            exact ⟨O, _, rfl, DPut.t (k := key ((i : Int), (j : Int))) (hd p np) (ht p) hl, _, _, rfl, u1, u2, u3, hsg2⟩
          · subst q
            rw [find2]
            refine ⟨_, rfl, _, rfl, _, rfl, szl, fun p np => ?_⟩
            obtain ⟨u1, u2, u3⟩ := put 2 (.inr rfl) rfl p np
            exact ⟨O, _, rfl, DPut.t (k := key ((i : Int), (j : Int))) (hd p np) (ht p) hl, _, _, rfl, u1, u2, u3, hsg2⟩
        · have h46 : cj = 46 := by
            rw [lit_dot] at e3
            have := tx_eq.mp (show V.str (TX [cj]) = V.str (TX [46]) from e3)
            exact (List.cons.inj this).1
          refine ⟨_, kv, rfl, s4, S4, hrd.skip (by rw [hchr, h46]; rfl), hsg2⟩
      · rintro σ H4 ⟨v4, kv, rfl, s4, S4, hrd, hsg⟩
        refine ⟨_, _, kv, rfl, s4, S4, hrd.row (by omega), fun r hr => ?_⟩
        by_cases q : r = i
        · subst q
          refine ⟨li, hli, by omega, fun c m => ?_⟩
          obtain ⟨q, hq, e4⟩ := List.mem_iff_getElem.mp m
          exact hsg q (by omega) c (List.getElem?_eq_some_iff.mpr ⟨hq, e4⟩)
        · exact hgood r (by omega)
    · rintro σ H3 ⟨v3, v4, kv, rfl, s3, S3, hrd, hgood⟩
      have w : Writes ls R C := ⟨hs, by omega, hz, fun r hr => hgood r (by omega)⟩
      have hL3 := s3 _ _ hL
      refine ⟨_, rfl, L, _, rfl, .inl (SqL.of hL3), _, _, rfl, rfl, _, rfl, _, rfl, szl, fun p np => ?_⟩
      dsimp only
      rw [← hR2]
      have sp := same_upd (o := .tup [V.int R, V.int C, V.ref O]) np
      have fO : H O = none := by
        cases e : H O with
        | none => rfl
        | some u => rw [s1 _ _ e] at nO0; cases nO0
      exact k1 R C w kv (hrd.ends (by omega)) p O _ (s1.trans (s3.trans sp)) fO upd_same (S3.same sp)
theorem ok_law {f : Addr} {fd : FuncData} (F : Fun K "law" "law" s_law f fd) (T : Top K mg D) (x_BoardError : XC K mg "BoardError" D.eBoardError) (x_NoBoard : XC K mg "NoBoard" D.eNoBoard) (x_NoCell : XC K mg "NoCell" D.eNoCell) (x_NoHand : XC K mg "NoHand" D.eNoHand) (x_CellTaken : XC K mg "CellTaken" D.eCellTaken) (x_CellEmpty : XC K mg "CellEmpty" D.eCellEmpty) (m_NoBoard : PySem.W.exmOne K (.ref D.eNoBoard) (.ref D.eBoardError) = some true) (q_NoBoard : ExcC K D.eNoBoard) (i_NoBoard_NoBoard : PySem.W.kitOne K (.ref D.eNoBoard) (.ref D.eNoBoard) = some true) (i_NoBoard_ValueError : PySem.W.kitOne K (.ref D.eNoBoard) (.type "ValueError") = some true) (i_NoBoard_NoCell : PySem.W.kitOne K (.ref D.eNoBoard) (.ref D.eNoCell) = some false) (i_NoBoard_NoHand : PySem.W.kitOne K (.ref D.eNoBoard) (.ref D.eNoHand) = some false) (i_NoBoard_CellTaken : PySem.W.kitOne K (.ref D.eNoBoard) (.ref D.eCellTaken) = some false) (i_NoBoard_CellEmpty : PySem.W.kitOne K (.ref D.eNoBoard) (.ref D.eCellEmpty) = some false) (c_law_cell_at : Cl P w K mg base 1 "_law_cell_at" (sp_law_cell_at K D)) (c_law_text : Cl P w K mg base 1 "_law_text" (sp_law_text K D)) (c_law_owners4 : Cl P w K mg base 2 "_law_owners" (sp_law_owners4 K D)) (c_law_spoiled : Cl P w K mg base 2 "_law_spoiled" (sp_law_spoiled K D)) (c_law_due13 : Cl P w K mg base 1 "_law_due" (sp_law_due13 K D)) (c_read : Cl P w K mg base 4 "read" (sp_read K D)) (c_law_same : Cl P w K mg base 4 "_law_same" (sp_law_same K D)) : FnOk P w K mg base (L2.CX P w) 5 f fd ["script"] (sp_law K D) := by
  refine ofX0 (F.ok sc_law (fun vs H Q E h => ?_) (fun cdv A outer s H vs Q E hr h => ?_))
  · obtain ⟨a, ns, rfl, hh⟩ := h
    rfl
  · obtain ⟨a, ns, rfl, hh⟩ := h
    refine ⟨_, (pss_cons (ps_set (i := 1) sc_law.nd rfl (by first | exact Or.inl rfl | exact Or.inr rfl) (pe_op op_add pe_int (pe_op op_mod (pe_cl c_law_cell_at hr passL (pa_cons (pv 0) (pa_cons pe_int pa_nil))) pe_int)))
      (pss_cons (ps_set (i := 2) sc_law.nd rfl (by first | exact Or.inl rfl | exact Or.inr rfl) (pe_op op_add pe_int (pe_op op_mod (pe_cl c_law_cell_at hr passL (pa_cons (pv 0) (pa_cons pe_int pa_nil))) pe_int)))
      (pss_cons (ps_set (i := 3) sc_law.nd rfl (by first | exact Or.inl rfl | exact Or.inr rfl) (pe_cl c_law_text hr passL (pa_cons (pv 1) (pa_cons (pv 2) (pa_cons (pe_cl c_law_owners4 hr passL (pa_cons (pv 0) (pa_cons pe_int (pa_cons (pv 1) (pa_cons (pv 2) pa_nil))))) pa_nil)))))
      (C8.pss_cut (ps_if (pt_cmpR op_gt (pe_op op_mod (pe_cl c_law_cell_at hr passL (pa_cons (pv 0) (pa_cons pe_int pa_nil))) pe_int) pe_int (nomark _)) (pss_one (ps_set (i := 3) sc_law.nd rfl (by first | exact Or.inl rfl | exact Or.inr rfl) (pe_cl c_law_spoiled hr passL (pa_cons (pv 3) (pa_cons (pe_op op_mod (pe_op op_fdiv (pe_cl c_law_cell_at hr passL (pa_cons (pv 0) (pa_cons pe_int pa_nil))) pe_int) (pe_op op_pow pe_int pe_int)) pa_nil))))) pss_nil)
      (pss_cons (ps_set (i := 4) sc_law.nd rfl (by first | exact Or.inl rfl | exact Or.inr rfl) (pe_cl c_law_due13 hr passL (pa_cons (pv 3) pa_nil)))
      (pss_cons (ps_set (i := 5) sc_law.nd rfl (by first | exact Or.inl rfl | exact Or.inr rfl) pe_non)
      (pss_cons (ps_set (i := 6) sc_law.nd rfl (by first | exact Or.inl rfl | exact Or.inr rfl) (pe_lst pa_nil))
      (pss_cons (ps_try_as (i := 7) rfl rfl sc_law.nd rfl rfl ⟨by rfl, by decide, .inl x_BoardError.g⟩ takes0 (fun W pn xe tk _ => (pss_one (ps_set (i := 5) sc_law.nd rfl (by first | exact Or.inl rfl | exact Or.inr rfl) (pe_clS c_read hr (fun σ => passAt tk σ) (pa_cons (pv 3) pa_nil))))) (fun a oe cls d pn hz hf => (pss_cons (ps_set (i := 6) sc_law.nd rfl (by first | exact Or.inl rfl | exact Or.inr rfl) (pe_lst (pa_cons (pe_callB (id := "isinstance") (call_isX K hz hf) (by rfl) T.isinstance (by decide +kernel) (pa_cons (pv 7) (pa_cons (pe_glob (v := V.ref D.eNoBoard) (by rfl) x_NoBoard.g rfl) pa_nil))) (pa_cons (pe_callB (id := "isinstance") (call_isX K hz hf) (by rfl) T.isinstance (by decide +kernel) (pa_cons (pv 7) (pa_cons (pe_ty (n := "ValueError") T.ValueError (by decide +kernel)) pa_nil))) (pa_cons (pe_callB (id := "isinstance") (call_isX K hz hf) (by rfl) T.isinstance (by decide +kernel) (pa_cons (pv 7) (pa_cons (pe_glob (v := V.ref D.eNoCell) (by rfl) x_NoCell.g rfl) pa_nil))) (pa_cons (pe_callB (id := "isinstance") (call_isX K hz hf) (by rfl) T.isinstance (by decide +kernel) (pa_cons (pv 7) (pa_cons (pe_glob (v := V.ref D.eNoHand) (by rfl) x_NoHand.g rfl) pa_nil))) pa_nil))))))
          (pss_one (ps_set (i := 6) sc_law.nd rfl (by first | exact Or.inl rfl | exact Or.inr rfl) (pe_op op_cat (pv 6) (pe_lst (pa_cons (pe_callB (id := "isinstance") (call_isX K hz hf) (by rfl) T.isinstance (by decide +kernel) (pa_cons (pv 7) (pa_cons (pe_glob (v := V.ref D.eCellTaken) (by rfl) x_CellTaken.g rfl) pa_nil))) (pa_cons (pe_callB (id := "isinstance") (call_isX K hz hf) (by rfl) T.isinstance (by decide +kernel) (pa_cons (pv 7) (pa_cons (pe_glob (v := V.ref D.eCellEmpty) (by rfl) x_CellEmpty.g rfl) pa_nil))) pa_nil)))))))))
      (pss_cons (ps_if (pt_cmp (pc_isN (pv 4))) (pss_one (ps_ret (pe_cmpR (op_eqD hr.units) (pv 6) (pe_lst (pa_cons pe_bl (pa_cons pe_bl (pa_cons pe_bl (pa_cons pe_bl (pa_cons pe_bl (pa_cons pe_bl pa_nil))))))) (nomark _)))) pss_nil)
      (pss_one (ps_ret (pe_and (pe_cmpR (op_eqD hr.units) (pv 6) (pe_lst pa_nil) (nomark _)) (pe_one (pe_cl c_law_same hr passL (pa_cons (pv 5) (pa_cons (pe_ix ix_tup (pv 4) pe_int (fun _ _ => rfl)) (pa_cons (pe_ix ix_tup (pv 4) pe_int (fun _ _ => rfl)) (pa_cons (pe_ix ix_tup (pv 4) pe_int (fun _ _ => rfl)) pa_nil)))))))))))))))))), ?_⟩
    obtain ⟨hS, hlen, k⟩ := hh
    refine ⟨_, rfl, a, ns, 0, rfl, hS, by decide, _, _, rfl, rfl, (by show (0 : Int) < 10; decide), _, _, rfl, rfl, ?_⟩
    refine ⟨_, rfl, a, ns, 1, rfl, hS, by decide, _, _, rfl, rfl, (by show (0 : Int) < 10; decide), _, _, rfl, rfl, ?_⟩
    dsimp only
    have hr1 : 1 ≤ 1 + item ns 0 % 10 ∧ 1 + item ns 0 % 10 ≤ 10 := by omega
    have hc1 : 1 ≤ 1 + item ns 1 % 10 ∧ 1 + item ns 1 % 10 ≤ 10 := by omega
    generalize 1 + item ns 0 % 10 = R at hr1
    generalize 1 + item ns 1 % 10 = C at hc1
    have hz : Size R C := ⟨hr1.1, hr1.2, hc1.1, hc1.2⟩
    refine ⟨_, rfl, _, rfl, _, rfl, _, rfl, _, rfl, a, ns, 3, R, C, rfl, hS, by decide, hz, fun O ov H1 s1 nO hO hk _ => ⟨R, C, O, ov, rfl, hO, hk, fun H2 s2 => ?_⟩⟩
    have s12 := s1.trans s2
    have htl := text_len hz (ow ov)
    have htp := text_pos hz (ow ov)
    refine ⟨fun σ H' => ∃ z : Str, σ = [some (.ref a), some (.int R), some (.int C), some (.str z), none, none, none, none] ∧ z.length ≤ 900 ∧ Same H H', ?_, ?_⟩
    · refine ⟨_, rfl, a, ns, 2, rfl, s12.seq hS, by decide, _, _, rfl, rfl, (by show (0 : Int) < 3; decide), _, _, rfl, rfl, _, rfl, ifD (fun e => ?_) (fun e => ?_)⟩
      · refine ⟨_, rfl, _, rfl, a, ns, 2, rfl, s12.seq hS, by decide, _, _, rfl, rfl, ⟨by decide, by decide⟩, _, _, rfl, rfl, ⟨by decide, by decide, by decide⟩, _, _, rfl, rfl, (by show (0 : Int) < 10 ^ (9 : Int).toNat; decide), TX (text R C (ow ov)), _, rfl, (by rw [tx_len]; exact htp), (by rw [tx_len]; exact htl), fun z H3 hz3 s3 => ⟨z, rfl, hz3, s12.trans s3⟩⟩
      · exact ⟨_, rfl, (by rw [tx_len]; omega), s12⟩
    rintro σ H3 ⟨z, rfl, hzl, s3⟩
    obtain ⟨l, rfl⟩ : ∃ l, z = TX l := ⟨_, tx_of z⟩
    rw [tx_len] at hzl
    refine ⟨_, rfl, l, rfl, hzl, fun R' C' w kv hc p o H4 s4 no hp hov => ?_, fun n H4 s4 => ?_⟩
    · refine ⟨szl, fun M nM => ?_⟩
      have sM := same_upd (o := .lst []) nM
      refine ⟨_, rfl, l, rfl, hzl, fun R2 C2 w2 kv2 hc2 b d H5 s5 nb nd S5 => ?_, fun n => absurd ⟨_, _, w⟩ n⟩
      obtain ⟨e1, e2⟩ := w2.uniq w
      subst e1 e2
      have hs := hc2.uniq hc
      refine ⟨_, rfl, _, rfl, ifD (fun e => V.noConfusion e) (fun _ => ?_)⟩
      refine ⟨_, rfl, szl, fun M2 nM2 => ?_⟩
      have sM2 := same_upd (o := .lst []) nM2
      have sA := sM.trans (s5.trans sM2)
      refine ⟨blist [], blist [], dp_bools (SqL.of (sM2 _ _ (s5 _ _ upd_same))), dp_bools (SqL.of upd_same), sh_bl _, sh_bl _, ?_⟩
      rw [eqv_bl, decide_eq_true rfl]
      have hpA := sA _ _ hp
      refine ⟨true, rfl, _, rfl, _, rfl, p, _, _, _, rfl, rfl, SqT.of hpA, at_of (j := 0) rfl rfl, _, rfl, p, _, _, _, rfl, rfl, SqT.of hpA, at_of (j := 1) rfl rfl, _, rfl, p, _, _, _, rfl, rfl, SqT.of hpA, at_of (j := 2) rfl rfl, b, d, _, _, kv2, o, kv, rfl, S5.same sM2, hov.same sA, fun c _ => (hs.ow c).symm, fun H6 _ => k H6⟩
    · refine ⟨szl, fun M nM => ?_⟩
      have sM := same_upd (o := .lst []) nM
      refine ⟨_, rfl, l, rfl, hzl, fun R2 C2 w2 => absurd ⟨R2, C2, w2⟩ n, fun _ H5 s5 => ?_⟩
      refine ⟨true, m_NoBoard, fun _ a na => ?_, fun q => nomatch q⟩
      refine ⟨_, rfl, D.eNoBoard, rfl, rfl, q_NoBoard, _, _, true, rfl, fun u r => r, i_NoBoard_NoBoard, ?_⟩
      refine ⟨_, rfl, D.eNoBoard, rfl, rfl, q_NoBoard, _, _, true, rfl, fun u r => r, i_NoBoard_ValueError, ?_⟩
      refine ⟨_, rfl, D.eNoBoard, rfl, rfl, q_NoBoard, _, _, false, rfl, fun u r => r, i_NoBoard_NoCell, ?_⟩
      refine ⟨_, rfl, D.eNoBoard, rfl, rfl, q_NoBoard, _, _, false, rfl, fun u r => r, i_NoBoard_NoHand, ?_⟩
      refine ⟨szl, fun M2 nM2 => ?_⟩
      refine ⟨_, rfl, _, rfl, D.eNoBoard, rfl, rfl, q_NoBoard, _, _, false, rfl, fun u r => r, i_NoBoard_CellTaken, ?_⟩
      refine ⟨_, rfl, D.eNoBoard, rfl, rfl, q_NoBoard, _, _, false, rfl, fun u r => r, i_NoBoard_CellEmpty, ?_⟩
      refine ⟨szl, fun M3 nM3 => ?_⟩
      have sM3 := same_upd (o := .lst [V.bl false, V.bl false]) nM3
      refine ⟨M2, M3, _, _, rfl, rfl, sM3 _ _ upd_same, upd_same, (by show 4 + 2 ≤ sizeLine; decide), fun M4 nM4 => ?_⟩
      refine ⟨_, rfl, _, rfl, ifD (fun _ => ?_) (fun e => absurd rfl e)⟩
      refine ⟨_, rfl, szl, fun M5 nM5 => ?_⟩
      have sM5 := same_upd (o := .lst [V.bl true, V.bl true, V.bl false, V.bl false, V.bl false, V.bl false]) nM5
      refine ⟨blist [true, true, false, false, false, false], blist [true, true, false, false, false, false], dp_bools (SqL.of (sM5 _ _ upd_same)), dp_bools (SqL.of upd_same), sh_bl _, sh_bl _, ?_⟩
      rw [eqv_bl, decide_eq_true rfl]
      exact k _

end
theorem all_mk {l : PySem.W.OpenLaw} {w : World} {K : PySem.W.Frag} {h : Heap} {mg : Str → Option Value} {fa : Addr} (X : K.In h) (G : h.Ns mainGlobals mg) (hfa : mg "law" = some (.ref fa))
    {C eBoardError eNoBoard eNoCell eNoHand eCellTaken eCellEmpty f_law_cell_at f_law_text f_law_owners4 f_law_sign_by f_law_spoiled f_law_due13 f_B_init f_B_has f_B_see_cell f_see_hand f_B_put f_read f_B_rows f_B_columns f_B_owner f_law_whole f_law_same f_law : Addr}
    {tG tS : Tok}
    {oc_law_cell_at kV_law_cell_at dc_law_cell_at pm_law_cell_at cd_law_cell_at ct_law_cell_at : Value} {od_law_cell_at an_law_cell_at : Option Addr} {sl_law_cell_at : Array (Option Value)}
    {oc_law_text kV_law_text dc_law_text pm_law_text cd_law_text ct_law_text : Value} {od_law_text an_law_text : Option Addr} {sl_law_text : Array (Option Value)}
    {oc_law_owners4 kV_law_owners4 dc_law_owners4 pm_law_owners4 cd_law_owners4 ct_law_owners4 : Value} {od_law_owners4 an_law_owners4 : Option Addr} {sl_law_owners4 : Array (Option Value)}
    {oc_law_sign_by kV_law_sign_by dc_law_sign_by pm_law_sign_by cd_law_sign_by ct_law_sign_by : Value} {od_law_sign_by an_law_sign_by : Option Addr} {sl_law_sign_by : Array (Option Value)}
    {oc_law_spoiled kV_law_spoiled dc_law_spoiled pm_law_spoiled cd_law_spoiled ct_law_spoiled : Value} {od_law_spoiled an_law_spoiled : Option Addr} {sl_law_spoiled : Array (Option Value)}
    {oc_law_due13 kV_law_due13 dc_law_due13 pm_law_due13 cd_law_due13 ct_law_due13 : Value} {od_law_due13 an_law_due13 : Option Addr} {sl_law_due13 : Array (Option Value)}
    {oc_B_init kV_B_init dc_B_init pm_B_init cd_B_init ct_B_init : Value} {od_B_init an_B_init : Option Addr} {sl_B_init : Array (Option Value)}
    {oc_B_has kV_B_has dc_B_has pm_B_has cd_B_has ct_B_has : Value} {od_B_has an_B_has : Option Addr} {sl_B_has : Array (Option Value)}
    {oc_B_see_cell kV_B_see_cell dc_B_see_cell pm_B_see_cell cd_B_see_cell ct_B_see_cell : Value} {od_B_see_cell an_B_see_cell : Option Addr} {sl_B_see_cell : Array (Option Value)}
    {oc_see_hand kV_see_hand dc_see_hand pm_see_hand cd_see_hand ct_see_hand : Value} {od_see_hand an_see_hand : Option Addr} {sl_see_hand : Array (Option Value)}
    {oc_B_put kV_B_put dc_B_put pm_B_put cd_B_put ct_B_put : Value} {od_B_put an_B_put : Option Addr} {sl_B_put : Array (Option Value)}
    {oc_read kV_read dc_read pm_read cd_read ct_read : Value} {od_read an_read : Option Addr} {sl_read : Array (Option Value)}
    {oc_B_rows kV_B_rows dc_B_rows pm_B_rows cd_B_rows ct_B_rows : Value} {od_B_rows an_B_rows : Option Addr} {sl_B_rows : Array (Option Value)}
    {oc_B_columns kV_B_columns dc_B_columns pm_B_columns cd_B_columns ct_B_columns : Value} {od_B_columns an_B_columns : Option Addr} {sl_B_columns : Array (Option Value)}
    {oc_B_owner kV_B_owner dc_B_owner pm_B_owner cd_B_owner ct_B_owner : Value} {od_B_owner an_B_owner : Option Addr} {sl_B_owner : Array (Option Value)}
    {oc_law_whole kV_law_whole dc_law_whole pm_law_whole cd_law_whole ct_law_whole : Value} {od_law_whole an_law_whole : Option Addr} {sl_law_whole : Array (Option Value)}
    {oc_law_same kV_law_same dc_law_same pm_law_same cd_law_same ct_law_same : Value} {od_law_same an_law_same : Option Addr} {sl_law_same : Array (Option Value)}
    {oc_law kV_law dc_law pm_law cd_law ct_law : Value} {od_law an_law : Option Addr} {sl_law : Array (Option Value)}
    (aC : PySem.W.nsIn K mainGlobals "Board" = some (some (.ref C)))
    (g_BoardError : PySem.W.nsIn K mainGlobals "BoardError" = some (some (.ref eBoardError)))
    (x_BoardError : PySem.W.excIn K eBoardError [.type "ValueError", .type "Exception", .type "BaseException", .type "object"] "ValueError.__new__" = true)
    (k_BoardError : PySem.W.keepIn K (.ref eBoardError) = true)
    (b_BoardError : PySem.W.subIn K (.ref eBoardError) (.type "BaseException") = some true)
    (t_BoardError : PySem.W.typeIn K (.ref eBoardError) = some (.type "type"))
    (g_NoBoard : PySem.W.nsIn K mainGlobals "NoBoard" = some (some (.ref eNoBoard)))
    (x_NoBoard : PySem.W.excIn K eNoBoard [.type "ValueError", .type "Exception", .type "BaseException", .type "object"] "ValueError.__new__" = true)
    (k_NoBoard : PySem.W.keepIn K (.ref eNoBoard) = true)
    (b_NoBoard : PySem.W.subIn K (.ref eNoBoard) (.type "BaseException") = some true)
    (t_NoBoard : PySem.W.typeIn K (.ref eNoBoard) = some (.type "type"))
    (g_NoCell : PySem.W.nsIn K mainGlobals "NoCell" = some (some (.ref eNoCell)))
    (x_NoCell : PySem.W.excIn K eNoCell [.type "ValueError", .type "Exception", .type "BaseException", .type "object"] "ValueError.__new__" = true)
    (k_NoCell : PySem.W.keepIn K (.ref eNoCell) = true)
    (b_NoCell : PySem.W.subIn K (.ref eNoCell) (.type "BaseException") = some true)
    (t_NoCell : PySem.W.typeIn K (.ref eNoCell) = some (.type "type"))
    (g_NoHand : PySem.W.nsIn K mainGlobals "NoHand" = some (some (.ref eNoHand)))
    (x_NoHand : PySem.W.excIn K eNoHand [.type "ValueError", .type "Exception", .type "BaseException", .type "object"] "ValueError.__new__" = true)
    (k_NoHand : PySem.W.keepIn K (.ref eNoHand) = true)
    (b_NoHand : PySem.W.subIn K (.ref eNoHand) (.type "BaseException") = some true)
    (t_NoHand : PySem.W.typeIn K (.ref eNoHand) = some (.type "type"))
    (g_CellTaken : PySem.W.nsIn K mainGlobals "CellTaken" = some (some (.ref eCellTaken)))
    (x_CellTaken : PySem.W.excIn K eCellTaken [.type "ValueError", .type "Exception", .type "BaseException", .type "object"] "ValueError.__new__" = true)
    (k_CellTaken : PySem.W.keepIn K (.ref eCellTaken) = true)
    (b_CellTaken : PySem.W.subIn K (.ref eCellTaken) (.type "BaseException") = some true)
    (t_CellTaken : PySem.W.typeIn K (.ref eCellTaken) = some (.type "type"))
    (g_CellEmpty : PySem.W.nsIn K mainGlobals "CellEmpty" = some (some (.ref eCellEmpty)))
    (x_CellEmpty : PySem.W.excIn K eCellEmpty [.type "ValueError", .type "Exception", .type "BaseException", .type "object"] "ValueError.__new__" = true)
    (k_CellEmpty : PySem.W.keepIn K (.ref eCellEmpty) = true)
    (b_CellEmpty : PySem.W.subIn K (.ref eCellEmpty) (.type "BaseException") = some true)
    (t_CellEmpty : PySem.W.typeIn K (.ref eCellEmpty) = some (.type "type"))
    (u_NoBoard_BoardError : PySem.W.subIn K (.ref eNoBoard) (.ref eBoardError) = some true)
    (o_BoardError : PySem.W.isClsIn K eBoardError = true)
    (q_NoBoard_hg : PySem.W.findIn K (.ref eNoBoard) "__getattribute__" = some (some (.builtin "BaseException.__getattribute__")))
    (q_NoBoard_hk : PySem.W.findIn K (.ref eNoBoard) "__getattr__" = some none)
    (q_NoBoard_hd : PySem.W.hasDictIn K eNoBoard = true)
    (q_NoBoard_ha : PySem.W.findIn K (.ref eNoBoard) "__class__" = some (some (.builtin "object.__class__")))
    (q_NoBoard_hm : PySem.W.mroIn K eNoBoard (.type "object") = some true)
    (q_hn : PySem.W.specialIn K (.builtin "object.__class__") "__get__" = some (some (.builtin "getset_descriptor.__get__")))
    (q_ht : PySem.W.takesIn K (.builtin "object.__class__") = some true)
    (u_NoBoard_NoBoard : PySem.W.subIn K (.ref eNoBoard) (.ref eNoBoard) = some true)
    (o_NoBoard : PySem.W.isClsIn K eNoBoard = true)
    (u_NoBoard_ValueError : PySem.W.subIn K (.ref eNoBoard) (.type "ValueError") = some true)
    (u_NoBoard_NoCell : PySem.W.subIn K (.ref eNoBoard) (.ref eNoCell) = some false)
    (o_NoCell : PySem.W.isClsIn K eNoCell = true)
    (u_NoBoard_NoHand : PySem.W.subIn K (.ref eNoBoard) (.ref eNoHand) = some false)
    (o_NoHand : PySem.W.isClsIn K eNoHand = true)
    (u_NoBoard_CellTaken : PySem.W.subIn K (.ref eNoBoard) (.ref eCellTaken) = some false)
    (o_CellTaken : PySem.W.isClsIn K eCellTaken = true)
    (u_NoBoard_CellEmpty : PySem.W.subIn K (.ref eNoBoard) (.ref eCellEmpty) = some false)
    (o_CellEmpty : PySem.W.isClsIn K eCellEmpty = true)
    (pg : PySem.W.plainGet K C Str.empty = true)
    (hd : PySem.W.hasDictIn K C = true)
    (po : PySem.W.plainOver K C = true)
    (sa : PySem.W.findIn K (.ref C) "__setattr__" = some (some (.builtin "object.__setattr__")))
    (mk : PySem.W.makesIn K C = true)
    (kc : PySem.W.keepIn K (.ref C) = true)
    (nH : PySem.W.findIn K (.ref C) "height" = some none)
    (nW : PySem.W.findIn K (.ref C) "width" = some none)
    (nO : PySem.W.findIn K (.ref C) "owners" = some none)
    (aG : PySem.W.nsIn K mainGlobals "GREATEST" = some (some (.int 10 tG)))
    (z_len : PySem.W.nsIn K mainGlobals "len" = some none)
    (z_range : PySem.W.nsIn K mainGlobals "range" = some none)
    (z_isinstance : PySem.W.nsIn K mainGlobals "isinstance" = some none)
    (z_min : PySem.W.nsIn K mainGlobals "min" = some none)
    (z_sorted : PySem.W.nsIn K mainGlobals "sorted" = some none)
    (z_list : PySem.W.nsIn K mainGlobals "list" = some none)
    (z_set : PySem.W.nsIn K mainGlobals "set" = some none)
    (z_int : PySem.W.nsIn K mainGlobals "int" = some none)
    (z_bool : PySem.W.nsIn K mainGlobals "bool" = some none)
    (z_tuple : PySem.W.nsIn K mainGlobals "tuple" = some none)
    (z_str : PySem.W.nsIn K mainGlobals "str" = some none)
    (z_ValueError : PySem.W.nsIn K mainGlobals "ValueError" = some none)
    (aS : PySem.W.nsIn K mainGlobals "SIGNS" = some (some (.str ".12" tS)))
    (a_law_cell_at : PySem.W.nsIn K mainGlobals "_law_cell_at" = some (some (.ref f_law_cell_at)))
    (l_law_cell_at : K.lookup f_law_cell_at = some ⟨oc_law_cell_at, od_law_cell_at, .func (PySem.W.fnOf "_law_cell_at" "_law_cell_at" (defArgs s_law_cell_at) (defBody s_law_cell_at) (defScope s_law_cell_at) .none kV_law_cell_at dc_law_cell_at pm_law_cell_at an_law_cell_at cd_law_cell_at ct_law_cell_at), sl_law_cell_at⟩)
    (w_law_cell_at : PySem.W.codeIn K cd_law_cell_at "_law_cell_at" = true)
    (p_law_cell_at : PySem.W.keepIn K (.ref f_law_cell_at) = true)
    (a_law_text : PySem.W.nsIn K mainGlobals "_law_text" = some (some (.ref f_law_text)))
    (l_law_text : K.lookup f_law_text = some ⟨oc_law_text, od_law_text, .func (PySem.W.fnOf "_law_text" "_law_text" (defArgs s_law_text) (defBody s_law_text) (defScope s_law_text) .none kV_law_text dc_law_text pm_law_text an_law_text cd_law_text ct_law_text), sl_law_text⟩)
    (w_law_text : PySem.W.codeIn K cd_law_text "_law_text" = true)
    (p_law_text : PySem.W.keepIn K (.ref f_law_text) = true)
    (a_law_owners4 : PySem.W.nsIn K mainGlobals "_law_owners" = some (some (.ref f_law_owners4)))
    (l_law_owners4 : K.lookup f_law_owners4 = some ⟨oc_law_owners4, od_law_owners4, .func (PySem.W.fnOf "_law_owners" "_law_owners" (defArgs s_law_owners4) (defBody s_law_owners4) (defScope s_law_owners4) .none kV_law_owners4 dc_law_owners4 pm_law_owners4 an_law_owners4 cd_law_owners4 ct_law_owners4), sl_law_owners4⟩)
    (w_law_owners4 : PySem.W.codeIn K cd_law_owners4 "_law_owners" = true)
    (p_law_owners4 : PySem.W.keepIn K (.ref f_law_owners4) = true)
    (a_law_sign_by : PySem.W.nsIn K mainGlobals "_law_sign_by" = some (some (.ref f_law_sign_by)))
    (l_law_sign_by : K.lookup f_law_sign_by = some ⟨oc_law_sign_by, od_law_sign_by, .func (PySem.W.fnOf "_law_sign_by" "_law_sign_by" (defArgs s_law_sign_by) (defBody s_law_sign_by) (defScope s_law_sign_by) .none kV_law_sign_by dc_law_sign_by pm_law_sign_by an_law_sign_by cd_law_sign_by ct_law_sign_by), sl_law_sign_by⟩)
    (w_law_sign_by : PySem.W.codeIn K cd_law_sign_by "_law_sign_by" = true)
    (p_law_sign_by : PySem.W.keepIn K (.ref f_law_sign_by) = true)
    (a_law_spoiled : PySem.W.nsIn K mainGlobals "_law_spoiled" = some (some (.ref f_law_spoiled)))
    (l_law_spoiled : K.lookup f_law_spoiled = some ⟨oc_law_spoiled, od_law_spoiled, .func (PySem.W.fnOf "_law_spoiled" "_law_spoiled" (defArgs s_law_spoiled) (defBody s_law_spoiled) (defScope s_law_spoiled) .none kV_law_spoiled dc_law_spoiled pm_law_spoiled an_law_spoiled cd_law_spoiled ct_law_spoiled), sl_law_spoiled⟩)
    (w_law_spoiled : PySem.W.codeIn K cd_law_spoiled "_law_spoiled" = true)
    (p_law_spoiled : PySem.W.keepIn K (.ref f_law_spoiled) = true)
    (a_law_due13 : PySem.W.nsIn K mainGlobals "_law_due" = some (some (.ref f_law_due13)))
    (l_law_due13 : K.lookup f_law_due13 = some ⟨oc_law_due13, od_law_due13, .func (PySem.W.fnOf "_law_due" "_law_due" (defArgs s_law_due13) (defBody s_law_due13) (defScope s_law_due13) .none kV_law_due13 dc_law_due13 pm_law_due13 an_law_due13 cd_law_due13 ct_law_due13), sl_law_due13⟩)
    (w_law_due13 : PySem.W.codeIn K cd_law_due13 "_law_due" = true)
    (p_law_due13 : PySem.W.keepIn K (.ref f_law_due13) = true)
    (a_B_init : PySem.W.findIn K (.ref C) "__init__" = some (some (.ref f_B_init)))
    (j_B_init : PySem.W.isFn K (.ref f_B_init) = true)
    (l_B_init : K.lookup f_B_init = some ⟨oc_B_init, od_B_init, .func (PySem.W.fnOf "__init__" "Board.__init__" (defArgs s_B_init) (defBody s_B_init) (defScope s_B_init) .none kV_B_init dc_B_init pm_B_init an_B_init cd_B_init ct_B_init), sl_B_init⟩)
    (w_B_init : PySem.W.codeIn K cd_B_init "Board.__init__" = true)
    (p_B_init : PySem.W.keepIn K (.ref f_B_init) = true)
    (a_B_has : PySem.W.findIn K (.ref C) "has" = some (some (.ref f_B_has)))
    (j_B_has : PySem.W.isFn K (.ref f_B_has) = true)
    (l_B_has : K.lookup f_B_has = some ⟨oc_B_has, od_B_has, .func (PySem.W.fnOf "has" "Board.has" (defArgs s_B_has) (defBody s_B_has) (defScope s_B_has) .none kV_B_has dc_B_has pm_B_has an_B_has cd_B_has ct_B_has), sl_B_has⟩)
    (w_B_has : PySem.W.codeIn K cd_B_has "Board.has" = true)
    (p_B_has : PySem.W.keepIn K (.ref f_B_has) = true)
    (a_B_see_cell : PySem.W.findIn K (.ref C) "see_cell" = some (some (.ref f_B_see_cell)))
    (j_B_see_cell : PySem.W.isFn K (.ref f_B_see_cell) = true)
    (l_B_see_cell : K.lookup f_B_see_cell = some ⟨oc_B_see_cell, od_B_see_cell, .func (PySem.W.fnOf "see_cell" "Board.see_cell" (defArgs s_B_see_cell) (defBody s_B_see_cell) (defScope s_B_see_cell) .none kV_B_see_cell dc_B_see_cell pm_B_see_cell an_B_see_cell cd_B_see_cell ct_B_see_cell), sl_B_see_cell⟩)
    (w_B_see_cell : PySem.W.codeIn K cd_B_see_cell "Board.see_cell" = true)
    (p_B_see_cell : PySem.W.keepIn K (.ref f_B_see_cell) = true)
    (a_see_hand : PySem.W.nsIn K mainGlobals "see_hand" = some (some (.ref f_see_hand)))
    (l_see_hand : K.lookup f_see_hand = some ⟨oc_see_hand, od_see_hand, .func (PySem.W.fnOf "see_hand" "see_hand" (defArgs s_see_hand) (defBody s_see_hand) (defScope s_see_hand) .none kV_see_hand dc_see_hand pm_see_hand an_see_hand cd_see_hand ct_see_hand), sl_see_hand⟩)
    (w_see_hand : PySem.W.codeIn K cd_see_hand "see_hand" = true)
    (p_see_hand : PySem.W.keepIn K (.ref f_see_hand) = true)
    (a_B_put : PySem.W.findIn K (.ref C) "put" = some (some (.ref f_B_put)))
    (j_B_put : PySem.W.isFn K (.ref f_B_put) = true)
    (l_B_put : K.lookup f_B_put = some ⟨oc_B_put, od_B_put, .func (PySem.W.fnOf "put" "Board.put" (defArgs s_B_put) (defBody s_B_put) (defScope s_B_put) .none kV_B_put dc_B_put pm_B_put an_B_put cd_B_put ct_B_put), sl_B_put⟩)
    (w_B_put : PySem.W.codeIn K cd_B_put "Board.put" = true)
    (p_B_put : PySem.W.keepIn K (.ref f_B_put) = true)
    (a_read : PySem.W.nsIn K mainGlobals "read" = some (some (.ref f_read)))
    (l_read : K.lookup f_read = some ⟨oc_read, od_read, .func (PySem.W.fnOf "read" "read" (defArgs s_read) (defBody s_read) (defScope s_read) .none kV_read dc_read pm_read an_read cd_read ct_read), sl_read⟩)
    (w_read : PySem.W.codeIn K cd_read "read" = true)
    (p_read : PySem.W.keepIn K (.ref f_read) = true)
    (a_B_rows : PySem.W.findIn K (.ref C) "rows" = some (some (.ref f_B_rows)))
    (j_B_rows : PySem.W.isFn K (.ref f_B_rows) = true)
    (l_B_rows : K.lookup f_B_rows = some ⟨oc_B_rows, od_B_rows, .func (PySem.W.fnOf "rows" "Board.rows" (defArgs s_B_rows) (defBody s_B_rows) (defScope s_B_rows) .none kV_B_rows dc_B_rows pm_B_rows an_B_rows cd_B_rows ct_B_rows), sl_B_rows⟩)
    (w_B_rows : PySem.W.codeIn K cd_B_rows "Board.rows" = true)
    (p_B_rows : PySem.W.keepIn K (.ref f_B_rows) = true)
    (a_B_columns : PySem.W.findIn K (.ref C) "columns" = some (some (.ref f_B_columns)))
    (j_B_columns : PySem.W.isFn K (.ref f_B_columns) = true)
    (l_B_columns : K.lookup f_B_columns = some ⟨oc_B_columns, od_B_columns, .func (PySem.W.fnOf "columns" "Board.columns" (defArgs s_B_columns) (defBody s_B_columns) (defScope s_B_columns) .none kV_B_columns dc_B_columns pm_B_columns an_B_columns cd_B_columns ct_B_columns), sl_B_columns⟩)
    (w_B_columns : PySem.W.codeIn K cd_B_columns "Board.columns" = true)
    (p_B_columns : PySem.W.keepIn K (.ref f_B_columns) = true)
    (a_B_owner : PySem.W.findIn K (.ref C) "owner" = some (some (.ref f_B_owner)))
    (j_B_owner : PySem.W.isFn K (.ref f_B_owner) = true)
    (l_B_owner : K.lookup f_B_owner = some ⟨oc_B_owner, od_B_owner, .func (PySem.W.fnOf "owner" "Board.owner" (defArgs s_B_owner) (defBody s_B_owner) (defScope s_B_owner) .none kV_B_owner dc_B_owner pm_B_owner an_B_owner cd_B_owner ct_B_owner), sl_B_owner⟩)
    (w_B_owner : PySem.W.codeIn K cd_B_owner "Board.owner" = true)
    (p_B_owner : PySem.W.keepIn K (.ref f_B_owner) = true)
    (a_law_whole : PySem.W.nsIn K mainGlobals "_law_whole" = some (some (.ref f_law_whole)))
    (l_law_whole : K.lookup f_law_whole = some ⟨oc_law_whole, od_law_whole, .func (PySem.W.fnOf "_law_whole" "_law_whole" (defArgs s_law_whole) (defBody s_law_whole) (defScope s_law_whole) .none kV_law_whole dc_law_whole pm_law_whole an_law_whole cd_law_whole ct_law_whole), sl_law_whole⟩)
    (w_law_whole : PySem.W.codeIn K cd_law_whole "_law_whole" = true)
    (p_law_whole : PySem.W.keepIn K (.ref f_law_whole) = true)
    (a_law_same : PySem.W.nsIn K mainGlobals "_law_same" = some (some (.ref f_law_same)))
    (l_law_same : K.lookup f_law_same = some ⟨oc_law_same, od_law_same, .func (PySem.W.fnOf "_law_same" "_law_same" (defArgs s_law_same) (defBody s_law_same) (defScope s_law_same) .none kV_law_same dc_law_same pm_law_same an_law_same cd_law_same ct_law_same), sl_law_same⟩)
    (w_law_same : PySem.W.codeIn K cd_law_same "_law_same" = true)
    (p_law_same : PySem.W.keepIn K (.ref f_law_same) = true)
    (a_law : PySem.W.nsIn K mainGlobals "law" = some (some (.ref f_law)))
    (l_law : K.lookup f_law = some ⟨oc_law, od_law, .func (PySem.W.fnOf "law" "law" (defArgs s_law) (defBody s_law) (defScope s_law) .none kV_law dc_law pm_law an_law cd_law ct_law), sl_law⟩)
    (w_law : PySem.W.codeIn K cd_law "law" = true)
    (p_law : PySem.W.keepIn K (.ref f_law) = true) :
    ∃ fd : FuncData, (∀ (s : Shared) (v : Value), BindsTo s fd ⟨[v], []⟩ [("script", v)]) ∧ ∀ base : Heap, K.In base → base.Ns mainGlobals mg → FnOk l.prog w K mg base (L2.CX l.prog w) 5 fa fd ["script"] (sp_law K ad0) := by
  have e := hfa.symm.trans (PySem.W.mg_of X G a_law)
  cases e
  have T : Top K mg (⟨C, eBoardError, eNoBoard, eNoCell, eNoHand, eCellTaken, eCellEmpty, tG, tS, 0⟩ : Ad) := ⟨⟨pg, hd, po, sa⟩, nH, nW, nO, PySem.W.mg_of X G aG, PySem.W.mg_none_of X G z_len, PySem.W.mg_none_of X G z_range, PySem.W.mg_none_of X G z_isinstance, PySem.W.mg_none_of X G z_min, PySem.W.mg_none_of X G z_sorted, PySem.W.mg_none_of X G z_list, PySem.W.mg_none_of X G z_set, PySem.W.mg_none_of X G z_int, PySem.W.mg_none_of X G z_bool, PySem.W.mg_none_of X G z_tuple, PySem.W.mg_none_of X G z_str, PySem.W.mg_none_of X G z_ValueError⟩
  have x_BoardError : XC K mg "BoardError" (⟨C, eBoardError, eNoBoard, eNoCell, eNoHand, eCellTaken, eCellEmpty, tG, tS, 0⟩ : Ad).eBoardError := ⟨PySem.W.mg_of X G g_BoardError, x_BoardError, k_BoardError, b_BoardError, t_BoardError⟩
  have x_NoBoard : XC K mg "NoBoard" (⟨C, eBoardError, eNoBoard, eNoCell, eNoHand, eCellTaken, eCellEmpty, tG, tS, 0⟩ : Ad).eNoBoard := ⟨PySem.W.mg_of X G g_NoBoard, x_NoBoard, k_NoBoard, b_NoBoard, t_NoBoard⟩
  have x_NoCell : XC K mg "NoCell" (⟨C, eBoardError, eNoBoard, eNoCell, eNoHand, eCellTaken, eCellEmpty, tG, tS, 0⟩ : Ad).eNoCell := ⟨PySem.W.mg_of X G g_NoCell, x_NoCell, k_NoCell, b_NoCell, t_NoCell⟩
  have x_NoHand : XC K mg "NoHand" (⟨C, eBoardError, eNoBoard, eNoCell, eNoHand, eCellTaken, eCellEmpty, tG, tS, 0⟩ : Ad).eNoHand := ⟨PySem.W.mg_of X G g_NoHand, x_NoHand, k_NoHand, b_NoHand, t_NoHand⟩
  have x_CellTaken : XC K mg "CellTaken" (⟨C, eBoardError, eNoBoard, eNoCell, eNoHand, eCellTaken, eCellEmpty, tG, tS, 0⟩ : Ad).eCellTaken := ⟨PySem.W.mg_of X G g_CellTaken, x_CellTaken, k_CellTaken, b_CellTaken, t_CellTaken⟩
  have x_CellEmpty : XC K mg "CellEmpty" (⟨C, eBoardError, eNoBoard, eNoCell, eNoHand, eCellTaken, eCellEmpty, tG, tS, 0⟩ : Ad).eCellEmpty := ⟨PySem.W.mg_of X G g_CellEmpty, x_CellEmpty, k_CellEmpty, b_CellEmpty, t_CellEmpty⟩
  have g_SIGNS := PySem.W.mg_of X G aS
  have q_NoBoard : ExcC K (⟨C, eBoardError, eNoBoard, eNoCell, eNoHand, eCellTaken, eCellEmpty, tG, tS, 0⟩ : Ad).eNoBoard := ⟨q_NoBoard_hg, q_NoBoard_hk, b_NoBoard, q_NoBoard_hd, q_NoBoard_ha, q_hn, q_ht, q_NoBoard_hm⟩
  have m_NoBoard_BoardError := exm_yes b_BoardError o_BoardError t_BoardError u_NoBoard_BoardError
  have i_NoBoard_NoBoard : PySem.W.kitOne K (.ref eNoBoard) (.ref eNoBoard) = some true := kit_yes
  have i_NoBoard_ValueError : PySem.W.kitOne K (.ref eNoBoard) (.type "ValueError") = some true := kit_ve u_NoBoard_ValueError
  have i_NoBoard_NoCell : PySem.W.kitOne K (.ref eNoBoard) (.ref eNoCell) = some false := kit_no o_NoCell t_NoCell u_NoBoard_NoCell u_NoBoard_NoBoard
  have i_NoBoard_NoHand : PySem.W.kitOne K (.ref eNoBoard) (.ref eNoHand) = some false := kit_no o_NoHand t_NoHand u_NoBoard_NoHand u_NoBoard_NoBoard
  have i_NoBoard_CellTaken : PySem.W.kitOne K (.ref eNoBoard) (.ref eCellTaken) = some false := kit_no o_CellTaken t_CellTaken u_NoBoard_CellTaken u_NoBoard_NoBoard
  have i_NoBoard_CellEmpty : PySem.W.kitOne K (.ref eNoBoard) (.ref eCellEmpty) = some false := kit_no o_CellEmpty t_CellEmpty u_NoBoard_CellEmpty u_NoBoard_NoBoard
  have F_law_cell_at := fun_mk (st := s_law_cell_at) l_law_cell_at w_law_cell_at p_law_cell_at
  have F_law_text := fun_mk (st := s_law_text) l_law_text w_law_text p_law_text
  have F_law_owners4 := fun_mk (st := s_law_owners4) l_law_owners4 w_law_owners4 p_law_owners4
  have F_law_sign_by := fun_mk (st := s_law_sign_by) l_law_sign_by w_law_sign_by p_law_sign_by
  have F_law_spoiled := fun_mk (st := s_law_spoiled) l_law_spoiled w_law_spoiled p_law_spoiled
  have F_law_due13 := fun_mk (st := s_law_due13) l_law_due13 w_law_due13 p_law_due13
  have F_B_init := fun_mk (st := s_B_init) l_B_init w_B_init p_B_init
  have F_B_has := fun_mk (st := s_B_has) l_B_has w_B_has p_B_has
  have F_B_see_cell := fun_mk (st := s_B_see_cell) l_B_see_cell w_B_see_cell p_B_see_cell
  have F_see_hand := fun_mk (st := s_see_hand) l_see_hand w_see_hand p_see_hand
  have F_B_put := fun_mk (st := s_B_put) l_B_put w_B_put p_B_put
  have F_read := fun_mk (st := s_read) l_read w_read p_read
  have F_B_rows := fun_mk (st := s_B_rows) l_B_rows w_B_rows p_B_rows
  have F_B_columns := fun_mk (st := s_B_columns) l_B_columns w_B_columns p_B_columns
  have F_B_owner := fun_mk (st := s_B_owner) l_B_owner w_B_owner p_B_owner
  have F_law_whole := fun_mk (st := s_law_whole) l_law_whole w_law_whole p_law_whole
  have F_law_same := fun_mk (st := s_law_same) l_law_same w_law_same p_law_same
  have F_law := fun_mk (st := s_law) l_law w_law p_law
  refine ⟨PySem.W.fnOf "law" "law" (defArgs s_law) (defBody s_law) (defScope s_law) .none kV_law dc_law pm_law an_law cd_law ct_law, fun s v => .of_eq rfl, fun base _ _ => ?_⟩
  have c_law_cell_at : Cl l.prog w K mg base 1 "_law_cell_at" (sp_law_cell_at K (⟨C, eBoardError, eNoBoard, eNoCell, eNoHand, eCellTaken, eCellEmpty, tG, tS, 0⟩ : Ad)) := ⟨_, _, _, PySem.W.mg_of X G a_law_cell_at, F_law_cell_at.kp, bd_law_cell_at F_law_cell_at, ok_law_cell_at (P := l.prog) (w := w) (base := base) (D := (⟨C, eBoardError, eNoBoard, eNoCell, eNoHand, eCellTaken, eCellEmpty, tG, tS, 0⟩ : Ad)) F_law_cell_at T⟩
  have c_law_text : Cl l.prog w K mg base 1 "_law_text" (sp_law_text K (⟨C, eBoardError, eNoBoard, eNoCell, eNoHand, eCellTaken, eCellEmpty, tG, tS, 0⟩ : Ad)) := ⟨_, _, _, PySem.W.mg_of X G a_law_text, F_law_text.kp, bd_law_text F_law_text, ok_law_text (P := l.prog) (w := w) (base := base) (D := (⟨C, eBoardError, eNoBoard, eNoCell, eNoHand, eCellTaken, eCellEmpty, tG, tS, 0⟩ : Ad)) F_law_text T⟩
  have c_law_owners4 : Cl l.prog w K mg base 2 "_law_owners" (sp_law_owners4 K (⟨C, eBoardError, eNoBoard, eNoCell, eNoHand, eCellTaken, eCellEmpty, tG, tS, 0⟩ : Ad)) := ⟨_, _, _, PySem.W.mg_of X G a_law_owners4, F_law_owners4.kp, bd_law_owners4 F_law_owners4, ok_law_owners4 (P := l.prog) (w := w) (base := base) (D := (⟨C, eBoardError, eNoBoard, eNoCell, eNoHand, eCellTaken, eCellEmpty, tG, tS, 0⟩ : Ad)) F_law_owners4 T c_law_cell_at⟩
  have c_law_sign_by : Cl l.prog w K mg base 1 "_law_sign_by" (sp_law_sign_by K (⟨C, eBoardError, eNoBoard, eNoCell, eNoHand, eCellTaken, eCellEmpty, tG, tS, 0⟩ : Ad)) := ⟨_, _, _, PySem.W.mg_of X G a_law_sign_by, F_law_sign_by.kp, bd_law_sign_by F_law_sign_by, ok_law_sign_by (P := l.prog) (w := w) (base := base) (D := (⟨C, eBoardError, eNoBoard, eNoCell, eNoHand, eCellTaken, eCellEmpty, tG, tS, 0⟩ : Ad)) F_law_sign_by T⟩
  have c_law_spoiled : Cl l.prog w K mg base 2 "_law_spoiled" (sp_law_spoiled K (⟨C, eBoardError, eNoBoard, eNoCell, eNoHand, eCellTaken, eCellEmpty, tG, tS, 0⟩ : Ad)) := ⟨_, _, _, PySem.W.mg_of X G a_law_spoiled, F_law_spoiled.kp, bd_law_spoiled F_law_spoiled, ok_law_spoiled (P := l.prog) (w := w) (base := base) (D := (⟨C, eBoardError, eNoBoard, eNoCell, eNoHand, eCellTaken, eCellEmpty, tG, tS, 0⟩ : Ad)) F_law_spoiled T c_law_sign_by⟩
  have c_law_due13 : Cl l.prog w K mg base 1 "_law_due" (sp_law_due13 K (⟨C, eBoardError, eNoBoard, eNoCell, eNoHand, eCellTaken, eCellEmpty, tG, tS, 0⟩ : Ad)) := ⟨_, _, _, PySem.W.mg_of X G a_law_due13, F_law_due13.kp, bd_law_due13 F_law_due13, ok_law_due13 (P := l.prog) (w := w) (base := base) (D := (⟨C, eBoardError, eNoBoard, eNoCell, eNoHand, eCellTaken, eCellEmpty, tG, tS, 0⟩ : Ad)) F_law_due13 T⟩
  have c_B_init : Mkr l.prog w K mg base 1 "Board" (⟨C, eBoardError, eNoBoard, eNoCell, eNoHand, eCellTaken, eCellEmpty, tG, tS, 0⟩ : Ad).C (sp_B_init K (⟨C, eBoardError, eNoBoard, eNoCell, eNoHand, eCellTaken, eCellEmpty, tG, tS, 0⟩ : Ad)) := ⟨_, _, _, PySem.W.mg_of X G aC, ⟨mk, a_B_init, j_B_init, kc⟩, bd_B_init F_B_init, ok_B_init (P := l.prog) (w := w) (base := base) (D := (⟨C, eBoardError, eNoBoard, eNoCell, eNoHand, eCellTaken, eCellEmpty, tG, tS, 0⟩ : Ad)) F_B_init T x_NoBoard⟩
  have c_B_has : Mt l.prog w K mg base 1 (⟨C, eBoardError, eNoBoard, eNoCell, eNoHand, eCellTaken, eCellEmpty, tG, tS, 0⟩ : Ad).C "has" (sp_B_has K (⟨C, eBoardError, eNoBoard, eNoCell, eNoHand, eCellTaken, eCellEmpty, tG, tS, 0⟩ : Ad)) := ⟨_, _, _, ⟨a_B_has, j_B_has, p_B_has⟩, bd_B_has F_B_has, ok_B_has (P := l.prog) (w := w) (base := base) (D := (⟨C, eBoardError, eNoBoard, eNoCell, eNoHand, eCellTaken, eCellEmpty, tG, tS, 0⟩ : Ad)) F_B_has T⟩
  have c_B_see_cell : Mt l.prog w K mg base 2 (⟨C, eBoardError, eNoBoard, eNoCell, eNoHand, eCellTaken, eCellEmpty, tG, tS, 0⟩ : Ad).C "see_cell" (sp_B_see_cell K (⟨C, eBoardError, eNoBoard, eNoCell, eNoHand, eCellTaken, eCellEmpty, tG, tS, 0⟩ : Ad)) := ⟨_, _, _, ⟨a_B_see_cell, j_B_see_cell, p_B_see_cell⟩, bd_B_see_cell F_B_see_cell, ok_B_see_cell (P := l.prog) (w := w) (base := base) (D := (⟨C, eBoardError, eNoBoard, eNoCell, eNoHand, eCellTaken, eCellEmpty, tG, tS, 0⟩ : Ad)) F_B_see_cell T x_NoCell c_B_has⟩
  have c_see_hand : Cl l.prog w K mg base 1 "see_hand" (sp_see_hand K (⟨C, eBoardError, eNoBoard, eNoCell, eNoHand, eCellTaken, eCellEmpty, tG, tS, 0⟩ : Ad)) := ⟨_, _, _, PySem.W.mg_of X G a_see_hand, F_see_hand.kp, bd_see_hand F_see_hand, ok_see_hand (P := l.prog) (w := w) (base := base) (D := (⟨C, eBoardError, eNoBoard, eNoCell, eNoHand, eCellTaken, eCellEmpty, tG, tS, 0⟩ : Ad)) F_see_hand T x_NoHand⟩
  have c_B_put : Mt l.prog w K mg base 3 (⟨C, eBoardError, eNoBoard, eNoCell, eNoHand, eCellTaken, eCellEmpty, tG, tS, 0⟩ : Ad).C "put" (sp_B_put K (⟨C, eBoardError, eNoBoard, eNoCell, eNoHand, eCellTaken, eCellEmpty, tG, tS, 0⟩ : Ad)) := ⟨_, _, _, ⟨a_B_put, j_B_put, p_B_put⟩, bd_B_put F_B_put, ok_B_put (P := l.prog) (w := w) (base := base) (D := (⟨C, eBoardError, eNoBoard, eNoCell, eNoHand, eCellTaken, eCellEmpty, tG, tS, 0⟩ : Ad)) F_B_put T x_CellTaken c_B_see_cell c_see_hand⟩
  have c_read : Cl l.prog w K mg base 4 "read" (sp_read K (⟨C, eBoardError, eNoBoard, eNoCell, eNoHand, eCellTaken, eCellEmpty, tG, tS, 0⟩ : Ad)) := ⟨_, _, _, PySem.W.mg_of X G a_read, F_read.kp, bd_read F_read, ok_read (P := l.prog) (w := w) (base := base) (D := (⟨C, eBoardError, eNoBoard, eNoCell, eNoHand, eCellTaken, eCellEmpty, tG, tS, 0⟩ : Ad)) F_read T x_NoBoard g_SIGNS c_B_init c_B_put⟩
  have c_B_rows : Mt l.prog w K mg base 1 (⟨C, eBoardError, eNoBoard, eNoCell, eNoHand, eCellTaken, eCellEmpty, tG, tS, 0⟩ : Ad).C "rows" (sp_B_rows K (⟨C, eBoardError, eNoBoard, eNoCell, eNoHand, eCellTaken, eCellEmpty, tG, tS, 0⟩ : Ad)) := ⟨_, _, _, ⟨a_B_rows, j_B_rows, p_B_rows⟩, bd_B_rows F_B_rows, ok_B_rows (P := l.prog) (w := w) (base := base) (D := (⟨C, eBoardError, eNoBoard, eNoCell, eNoHand, eCellTaken, eCellEmpty, tG, tS, 0⟩ : Ad)) F_B_rows T⟩
  have c_B_columns : Mt l.prog w K mg base 1 (⟨C, eBoardError, eNoBoard, eNoCell, eNoHand, eCellTaken, eCellEmpty, tG, tS, 0⟩ : Ad).C "columns" (sp_B_columns K (⟨C, eBoardError, eNoBoard, eNoCell, eNoHand, eCellTaken, eCellEmpty, tG, tS, 0⟩ : Ad)) := ⟨_, _, _, ⟨a_B_columns, j_B_columns, p_B_columns⟩, bd_B_columns F_B_columns, ok_B_columns (P := l.prog) (w := w) (base := base) (D := (⟨C, eBoardError, eNoBoard, eNoCell, eNoHand, eCellTaken, eCellEmpty, tG, tS, 0⟩ : Ad)) F_B_columns T⟩
  have c_B_owner : Mt l.prog w K mg base 3 (⟨C, eBoardError, eNoBoard, eNoCell, eNoHand, eCellTaken, eCellEmpty, tG, tS, 0⟩ : Ad).C "owner" (sp_B_owner K (⟨C, eBoardError, eNoBoard, eNoCell, eNoHand, eCellTaken, eCellEmpty, tG, tS, 0⟩ : Ad)) := ⟨_, _, _, ⟨a_B_owner, j_B_owner, p_B_owner⟩, bd_B_owner F_B_owner, ok_B_owner (P := l.prog) (w := w) (base := base) (D := (⟨C, eBoardError, eNoBoard, eNoCell, eNoHand, eCellTaken, eCellEmpty, tG, tS, 0⟩ : Ad)) F_B_owner T c_B_see_cell⟩
  have c_law_whole : Cl l.prog w K mg base 1 "_law_whole" (sp_law_whole K (⟨C, eBoardError, eNoBoard, eNoCell, eNoHand, eCellTaken, eCellEmpty, tG, tS, 0⟩ : Ad)) := ⟨_, _, _, PySem.W.mg_of X G a_law_whole, F_law_whole.kp, bd_law_whole F_law_whole, ok_law_whole (P := l.prog) (w := w) (base := base) (D := (⟨C, eBoardError, eNoBoard, eNoCell, eNoHand, eCellTaken, eCellEmpty, tG, tS, 0⟩ : Ad)) F_law_whole T⟩
  have c_law_same : Cl l.prog w K mg base 4 "_law_same" (sp_law_same K (⟨C, eBoardError, eNoBoard, eNoCell, eNoHand, eCellTaken, eCellEmpty, tG, tS, 0⟩ : Ad)) := ⟨_, _, _, PySem.W.mg_of X G a_law_same, F_law_same.kp, bd_law_same F_law_same, ok_law_same (P := l.prog) (w := w) (base := base) (D := (⟨C, eBoardError, eNoBoard, eNoCell, eNoHand, eCellTaken, eCellEmpty, tG, tS, 0⟩ : Ad)) F_law_same T c_B_rows c_B_columns c_B_owner c_law_whole⟩
  exact ok_law (P := l.prog) (w := w) (base := base) (D := (⟨C, eBoardError, eNoBoard, eNoCell, eNoHand, eCellTaken, eCellEmpty, tG, tS, 0⟩ : Ad)) F_law T x_BoardError x_NoBoard x_NoCell x_NoHand x_CellTaken x_CellEmpty m_NoBoard_BoardError q_NoBoard i_NoBoard_NoBoard i_NoBoard_ValueError i_NoBoard_NoCell i_NoBoard_NoHand i_NoBoard_CellTaken i_NoBoard_CellEmpty c_law_cell_at c_law_text c_law_owners4 c_law_spoiled c_law_due13 c_read c_law_same
theorem walk {l : PySem.W.OpenLaw} {q : Program} {loose : List Str} {XP : (Str → Option Value) → Heap → Prop} {YP : World → Heap → Prop} {d : DefRec} {K : Params → PySem.W.Frag} (hn : l.most = some 63) (hdf : d.params.defaults = [])
    (hY : ∀ (w : World) (h : Heap), YP w h → (K w.params).In h)
    (F : ∀ (w : World) (mg : Str → Option Value) (fa : Addr) (h : Heap), (K w.params).In h → h.Ns mainGlobals mg → mg d.name = some (.ref fa) →
      ∃ fd : FuncData, (∀ (s : Shared) (u : Value), BindsTo s fd ⟨[u], []⟩ [("script", u)]) ∧ ∀ base : Heap, (K w.params).In base → base.Ns mainGlobals mg → FnOk l.prog w (K w.params) mg base (L2.CX l.prog w) 5 fa fd ["script"] (sp_law (K w.params) ad0)) :
    PySem.W.WalkO q loose XP YP l.row.toRowW d [] (fun f vs => PySem.call f vs) :=
  L2.walk_of (n := 63) (k := 5) (x := "script") (CX := fun w => L2.CX l.prog w) (sp := fun w => sp_law (K w.params) ad0) hn (by decide) hdf ⟨rfl, by decide, by decide⟩ hY F (fun _ _ a ns hl _ hS => ⟨a, ns, rfl, hS, hl, fun _ => rfl⟩) fun _ _ _ _ _ z => by
    obtain ⟨_, _, _, _, _, _, _, _, _, _, _, _, z⟩ := z
    exact z
end SC
open PySem PySem.W PyProof.Rows
set_option maxRecDepth 100000 in
set_option maxHeartbeats 0 in
theorem PySem.Challenge.cw_sidechain_k13_boards_read_or_refused_holds : PySem.Challenge.rw_sidechain_k13_boards_read_or_refused.Holds := by
  w_on; o_law; k_head; (case hw => w_witness2)
  k_fill
  refine SC.walk (l := PySem.Challenge.rw_sidechain_k13_boards_read_or_refused) rfl rfl (fun w h Y => PySem.W.kIn_of Y) ?F
  case F =>
    intro w mg fa h KX G hmg
    refine' SC.all_mk KX G hmg ?aC ?g_BoardError ?x_BoardError ?k_BoardError ?b_BoardError ?t_BoardError ?g_NoBoard ?x_NoBoard ?k_NoBoard ?b_NoBoard ?t_NoBoard ?g_NoCell ?x_NoCell ?k_NoCell ?b_NoCell ?t_NoCell ?g_NoHand ?x_NoHand ?k_NoHand ?b_NoHand ?t_NoHand ?g_CellTaken ?x_CellTaken ?k_CellTaken ?b_CellTaken ?t_CellTaken ?g_CellEmpty ?x_CellEmpty ?k_CellEmpty ?b_CellEmpty ?t_CellEmpty ?u_NoBoard_BoardError ?o_BoardError ?q_NoBoard_hg ?q_NoBoard_hk ?q_NoBoard_hd ?q_NoBoard_ha ?q_NoBoard_hm ?q_hn ?q_ht ?u_NoBoard_NoBoard ?o_NoBoard ?u_NoBoard_ValueError ?u_NoBoard_NoCell ?o_NoCell ?u_NoBoard_NoHand ?o_NoHand ?u_NoBoard_CellTaken ?o_CellTaken ?u_NoBoard_CellEmpty ?o_CellEmpty ?pg ?hd ?po ?sa ?mk ?kc ?nH ?nW ?nO ?aG ?z_len ?z_range ?z_isinstance ?z_min ?z_sorted ?z_list ?z_set ?z_int ?z_bool ?z_tuple ?z_str ?z_ValueError ?aS ?a_law_cell_at ?l_law_cell_at ?w_law_cell_at ?p_law_cell_at ?a_law_text ?l_law_text ?w_law_text ?p_law_text ?a_law_owners4 ?l_law_owners4 ?w_law_owners4 ?p_law_owners4 ?a_law_sign_by ?l_law_sign_by ?w_law_sign_by ?p_law_sign_by ?a_law_spoiled ?l_law_spoiled ?w_law_spoiled ?p_law_spoiled ?a_law_due13 ?l_law_due13 ?w_law_due13 ?p_law_due13 ?a_B_init ?j_B_init ?l_B_init ?w_B_init ?p_B_init ?a_B_has ?j_B_has ?l_B_has ?w_B_has ?p_B_has ?a_B_see_cell ?j_B_see_cell ?l_B_see_cell ?w_B_see_cell ?p_B_see_cell ?a_see_hand ?l_see_hand ?w_see_hand ?p_see_hand ?a_B_put ?j_B_put ?l_B_put ?w_B_put ?p_B_put ?a_read ?l_read ?w_read ?p_read ?a_B_rows ?j_B_rows ?l_B_rows ?w_B_rows ?p_B_rows ?a_B_columns ?j_B_columns ?l_B_columns ?w_B_columns ?p_B_columns ?a_B_owner ?j_B_owner ?l_B_owner ?w_B_owner ?p_B_owner ?a_law_whole ?l_law_whole ?w_law_whole ?p_law_whole ?a_law_same ?l_law_same ?w_law_same ?p_law_same ?a_law ?l_law ?w_law ?p_law
    (case aC => k_is)
    (case g_BoardError => k_is)
    (case x_BoardError => k_exc)
    (case k_BoardError => k_is)
    (case b_BoardError => k_is)
    (case t_BoardError => k_is)
    (case g_NoBoard => k_is)
    (case x_NoBoard => k_exc)
    (case k_NoBoard => k_is)
    (case b_NoBoard => k_is)
    (case t_NoBoard => k_is)
    (case g_NoCell => k_is)
    (case x_NoCell => k_exc)
    (case k_NoCell => k_is)
    (case b_NoCell => k_is)
    (case t_NoCell => k_is)
    (case g_NoHand => k_is)
    (case x_NoHand => k_exc)
    (case k_NoHand => k_is)
    (case b_NoHand => k_is)
    (case t_NoHand => k_is)
    (case g_CellTaken => k_is)
    (case x_CellTaken => k_exc)
    (case k_CellTaken => k_is)
    (case b_CellTaken => k_is)
    (case t_CellTaken => k_is)
    (case g_CellEmpty => k_is)
    (case x_CellEmpty => k_exc)
    (case k_CellEmpty => k_is)
    (case b_CellEmpty => k_is)
    (case t_CellEmpty => k_is)
    (case u_NoBoard_BoardError => k_is)
    (case o_BoardError => k_is)
    (case q_NoBoard_hg => k_is)
    (case q_NoBoard_hk => k_is)
    (case q_NoBoard_hd => k_is)
    (case q_NoBoard_ha => k_is)
    (case q_NoBoard_hm => k_is)
    (case q_hn => k_is)
    (case q_ht => k_is)
    (case u_NoBoard_NoBoard => k_is)
    (case o_NoBoard => k_is)
    (case u_NoBoard_ValueError => k_is)
    (case u_NoBoard_NoCell => k_is)
    (case o_NoCell => k_is)
    (case u_NoBoard_NoHand => k_is)
    (case o_NoHand => k_is)
    (case u_NoBoard_CellTaken => k_is)
    (case o_CellTaken => k_is)
    (case u_NoBoard_CellEmpty => k_is)
    (case o_CellEmpty => k_is)
    (case pg => k_is)
    (case hd => k_is)
    (case po => k_is)
    (case sa => k_is)
    (case mk => k_is)
    (case kc => k_is)
    (case nH => k_is)
    (case nW => k_is)
    (case nO => k_is)
    (case aG => k_is)
    (case z_len => k_is)
    (case z_range => k_is)
    (case z_isinstance => k_is)
    (case z_min => k_is)
    (case z_sorted => k_is)
    (case z_list => k_is)
    (case z_set => k_is)
    (case z_int => k_is)
    (case z_bool => k_is)
    (case z_tuple => k_is)
    (case z_str => k_is)
    (case z_ValueError => k_is)
    (case aS => k_is)
    (case a_law_cell_at => k_is)
    (case l_law_cell_at => k_is)
    (case w_law_cell_at => k_is)
    (case p_law_cell_at => k_is)
    (case a_law_text => k_is)
    (case l_law_text => k_is)
    (case w_law_text => k_is)
    (case p_law_text => k_is)
    (case a_law_owners4 => k_is)
    (case l_law_owners4 => k_is)
    (case w_law_owners4 => k_is)
    (case p_law_owners4 => k_is)
    (case a_law_sign_by => k_is)
    (case l_law_sign_by => k_is)
    (case w_law_sign_by => k_is)
    (case p_law_sign_by => k_is)
    (case a_law_spoiled => k_is)
    (case l_law_spoiled => k_is)
    (case w_law_spoiled => k_is)
    (case p_law_spoiled => k_is)
    (case a_law_due13 => k_is)
    (case l_law_due13 => k_is)
    (case w_law_due13 => k_is)
    (case p_law_due13 => k_is)
    (case a_B_init => k_is)
    (case j_B_init => k_is)
    (case l_B_init => k_is)
    (case w_B_init => k_is)
    (case p_B_init => k_is)
    (case a_B_has => k_is)
    (case j_B_has => k_is)
    (case l_B_has => k_is)
    (case w_B_has => k_is)
    (case p_B_has => k_is)
    (case a_B_see_cell => k_is)
    (case j_B_see_cell => k_is)
    (case l_B_see_cell => k_is)
    (case w_B_see_cell => k_is)
    (case p_B_see_cell => k_is)
    (case a_see_hand => k_is)
    (case l_see_hand => k_is)
    (case w_see_hand => k_is)
    (case p_see_hand => k_is)
    (case a_B_put => k_is)
    (case j_B_put => k_is)
    (case l_B_put => k_is)
    (case w_B_put => k_is)
    (case p_B_put => k_is)
    (case a_read => k_is)
    (case l_read => k_is)
    (case w_read => k_is)
    (case p_read => k_is)
    (case a_B_rows => k_is)
    (case j_B_rows => k_is)
    (case l_B_rows => k_is)
    (case w_B_rows => k_is)
    (case p_B_rows => k_is)
    (case a_B_columns => k_is)
    (case j_B_columns => k_is)
    (case l_B_columns => k_is)
    (case w_B_columns => k_is)
    (case p_B_columns => k_is)
    (case a_B_owner => k_is)
    (case j_B_owner => k_is)
    (case l_B_owner => k_is)
    (case w_B_owner => k_is)
    (case p_B_owner => k_is)
    (case a_law_whole => k_is)
    (case l_law_whole => k_is)
    (case w_law_whole => k_is)
    (case p_law_whole => k_is)
    (case a_law_same => k_is)
    (case l_law_same => k_is)
    (case w_law_same => k_is)
    (case p_law_same => k_is)
    (case a_law => k_is)
    (case l_law => k_is)
    (case w_law => k_is)
    (case p_law => k_is)
