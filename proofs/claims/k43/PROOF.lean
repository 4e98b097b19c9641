import PyProof.Rows.All
import Wide.All
import OpenK.AllK
import Wide.FinOn
import HandS.ForMost
import HandS.Slots
import HandS.SlotsOwn
import HandS.TupMul
import HandS.TupAny
import HandS.Style
import HandS.Conv
import HandS.IsInst
import HandS.TupLen
import HandS.Walk
import KE.GoesMore
import KE.GoesEnum
import HandS.HeadHook2
import KE.KDictDisplayH
import HandS.SortOrd
import HandS.SortInts
import KE.KSortTupAny
import HandS.GenYield
import HandS.GenList
import HandS.Codes
import HandS.HeadEnd
import HandS.EndBits
import HandS.Head2
import HandS.Defaults
import HandS.Head0
import HandS.Head1
import HandS.HeadHook1
import HandS.HeadHook3
import HandS.HeadHook4
import PySem.Challenge.RW_bondwords_k43_whole_any_shortest_word
import HandS.TupSets
-- Bw1
set_option autoImplicit true
set_option maxRecDepth 512
set_option Elab.async false
set_option autoImplicit false
set_option linter.all false
set_option maxHeartbeats 4000000
/-! Bw1: letters pressed on rows; ascents of two letters; lengths; descents. -/
namespace Bw

abbrev Row := Nat → Int
def press (w : Nat → Nat → Int) (a : Nat) (r : Row) : Row := fun c => r c + w a c * r a
def pr (w : Nat → Nat → Int) : List Nat → Row → Row
  | [], r => r
  | a :: u, r => pr w u (press w a r)
theorem pr_append (w : Nat → Nat → Int) : ∀ (u v : List Nat) (r : Row), pr w (u ++ v) r = pr w v (pr w u r)
  | [], _, _ => rfl
  | a :: u, v, r => pr_append w u v (press w a r)

def Kind (m : Nat) (p q : Int) : Prop :=
  (m = 2 ∧ p = 0 ∧ q = 0) ∨ (m = 3 ∧ p = 1 ∧ q = 1) ∨ (m = 4 ∧ p = 1 ∧ q = 2) ∨ (m = 4 ∧ p = 2 ∧ q = 1) ∨ (m = 6 ∧ p = 1 ∧ q = 3) ∨ (m = 6 ∧ p = 3 ∧ q = 1) ∨ (m = 0 ∧ p = 2 ∧ q = 2)
theorem Kind.swap {m : Nat} {p q : Int} (h : Kind m p q) : Kind m q p := by
  rcases h with ⟨e1, e2, e3⟩ | ⟨e1, e2, e3⟩ | ⟨e1, e2, e3⟩ | ⟨e1, e2, e3⟩ | ⟨e1, e2, e3⟩ | ⟨e1, e2, e3⟩ | ⟨e1, e2, e3⟩ <;> subst e1 e2 e3
  · exact .inl ⟨rfl, rfl, rfl⟩
  · exact .inr (.inl ⟨rfl, rfl, rfl⟩)
  · exact .inr (.inr (.inr (.inl ⟨rfl, rfl, rfl⟩)))
  · exact .inr (.inr (.inl ⟨rfl, rfl, rfl⟩))
  · exact .inr (.inr (.inr (.inr (.inr (.inl ⟨rfl, rfl, rfl⟩)))))
  · exact .inr (.inr (.inr (.inr (.inl ⟨rfl, rfl, rfl⟩))))
  · exact .inr (.inr (.inr (.inr (.inr (.inr ⟨rfl, rfl, rfl⟩)))))
/-- the bond by the weights -/
def bondOf (p q : Int) : Nat := if p * q = 0 then 2 else if p * q = 1 then 3 else if p * q = 2 then 4 else if p * q = 3 then 6 else 0
theorem Kind.bond {m : Nat} {p q : Int} (h : Kind m p q) : m = bondOf p q := by
  rcases h with ⟨e1, e2, e3⟩ | ⟨e1, e2, e3⟩ | ⟨e1, e2, e3⟩ | ⟨e1, e2, e3⟩ | ⟨e1, e2, e3⟩ | ⟨e1, e2, e3⟩ | ⟨e1, e2, e3⟩ <;> subst e1 e2 e3 <;> rfl

structure Sys where
  n : Nat
  w : Nat → Nat → Int
  m : Nat → Nat → Nat
  diag : ∀ a, a < n → w a a = -2
  kind : ∀ a b, a < n → b < n → a ≠ b → Kind (m a b) (w a b) (w b a)
  out : ∀ a c, n ≤ c → w a c = 0
theorem Sys.msymm (S : Sys) {a b : Nat} (ha : a < S.n) (hb : b < S.n) (hab : a ≠ b) : S.m a b = S.m b a := by
  rw [(S.kind a b ha hb hab).bond, (S.kind b a hb ha (Ne.symm hab)).swap.bond]

/-! ### two letters -/
inductive Asc (x y p q : Int) : Nat → Int → Int → Prop
  | zero : Asc x y p q 0 0 0
  | a {l : Nat} {A B : Int} : Asc x y p q l A B → 0 < x - 2 * A + q * B → Asc x y p q (l + 1) (x - A + q * B) B
  | b {l : Nat} {A B : Int} : Asc x y p q l A B → 0 < y + p * A - 2 * B → Asc x y p q (l + 1) A (y + p * A - B)
theorem Asc.cast {x y p q : Int} {l l' : Nat} {A A' B B' : Int} (h : Asc x y p q l A B) (e1 : l = l') (e2 : A = A') (e3 : B = B') : Asc x y p q l' A' B' := by
  subst e1 e2 e3
  exact h
def Dih (m : Nat) (x y p q : Int) (l : Nat) (A B : Int) : Prop :=
  (x - 2 * A + q * B ≠ 0 ∧ y + p * A - 2 * B ≠ 0) ∧
  (x - 2 * A + q * B < 0 → ∃ l', l = l' + 1 ∧ Asc x y p q l' (x - A + q * B) B) ∧
  (y + p * A - 2 * B < 0 → ∃ l', l = l' + 1 ∧ Asc x y p q l' A (y + p * A - B)) ∧
  (m = 0 → ¬ (x - 2 * A + q * B < 0 ∧ y + p * A - 2 * B < 0))
theorem dih_2_0_0 {x y : Int} (hx : 0 < x) (hy : 0 < y) {l : Nat} {A B : Int} (h : Asc x y 0 0 l A B) : Dih 2 x y 0 0 l A B := by
  have st : (l = 0 ∧ A = (0 * x + 0 * y) ∧ B = (0 * x + 0 * y)) ∨ (l = 1 ∧ A = (1 * x + 0 * y) ∧ B = (0 * x + 0 * y)) ∨ (l = 1 ∧ A = (0 * x + 0 * y) ∧ B = (0 * x + 1 * y)) ∨ (l = 2 ∧ A = (1 * x + 0 * y) ∧ B = (0 * x + 1 * y)) := by
    induction h with
    | zero => exact Or.inl ⟨rfl, by omega, by omega⟩
    | a h hp ih =>
      rcases ih with ⟨e1, e2, e3⟩ | ⟨e1, e2, e3⟩ | ⟨e1, e2, e3⟩ | ⟨e1, e2, e3⟩ <;> subst e1 e2 e3
      · exact Or.inr (Or.inl ⟨rfl, by omega, by omega⟩)
      · exfalso; omega
      · exact Or.inr (Or.inr (Or.inr (⟨rfl, by omega, by omega⟩)))
      · exfalso; omega
    | b h hp ih =>
      rcases ih with ⟨e1, e2, e3⟩ | ⟨e1, e2, e3⟩ | ⟨e1, e2, e3⟩ | ⟨e1, e2, e3⟩ <;> subst e1 e2 e3
      · exact Or.inr (Or.inr (Or.inl ⟨rfl, by omega, by omega⟩))
      · exact Or.inr (Or.inr (Or.inr (⟨rfl, by omega, by omega⟩)))
      · exfalso; omega
      · exfalso; omega
  have a0 : Asc x y 0 0 0 0 0 := Asc.zero
  have a1 : Asc x y 0 0 1 (1 * x + 0 * y) (0 * x + 0 * y) := (Asc.a a0 (by omega)).cast rfl (by omega) (by omega)
  have b1 : Asc x y 0 0 1 (0 * x + 0 * y) (0 * x + 1 * y) := (Asc.b a0 (by omega)).cast rfl (by omega) (by omega)
  rcases st with ⟨e1, e2, e3⟩ | ⟨e1, e2, e3⟩ | ⟨e1, e2, e3⟩ | ⟨e1, e2, e3⟩ <;> subst e1 e2 e3
  · exact ⟨⟨by omega, by omega⟩, fun hn => absurd hn (by omega), fun hn => absurd hn (by omega), fun hm => absurd hm (by decide)⟩
  · exact ⟨⟨by omega, by omega⟩, fun hn => ⟨0, rfl, a0.cast rfl (by omega) (by omega)⟩, fun hn => absurd hn (by omega), fun hm => absurd hm (by decide)⟩
  · exact ⟨⟨by omega, by omega⟩, fun hn => absurd hn (by omega), fun hn => ⟨0, rfl, a0.cast rfl (by omega) (by omega)⟩, fun hm => absurd hm (by decide)⟩
  · exact ⟨⟨by omega, by omega⟩, fun hn => ⟨1, rfl, b1.cast rfl (by omega) (by omega)⟩, fun hn => ⟨1, rfl, a1.cast rfl (by omega) (by omega)⟩, fun hm => absurd hm (by decide)⟩
theorem dih_3_1_1 {x y : Int} (hx : 0 < x) (hy : 0 < y) {l : Nat} {A B : Int} (h : Asc x y 1 1 l A B) : Dih 3 x y 1 1 l A B := by
  have st : (l = 0 ∧ A = (0 * x + 0 * y) ∧ B = (0 * x + 0 * y)) ∨ (l = 1 ∧ A = (1 * x + 0 * y) ∧ B = (0 * x + 0 * y)) ∨ (l = 1 ∧ A = (0 * x + 0 * y) ∧ B = (0 * x + 1 * y)) ∨ (l = 2 ∧ A = (1 * x + 0 * y) ∧ B = (1 * x + 1 * y)) ∨ (l = 2 ∧ A = (1 * x + 1 * y) ∧ B = (0 * x + 1 * y)) ∨ (l = 3 ∧ A = (1 * x + 1 * y) ∧ B = (1 * x + 1 * y)) := by
    induction h with
    | zero => exact Or.inl ⟨rfl, by omega, by omega⟩
    | a h hp ih =>
      rcases ih with ⟨e1, e2, e3⟩ | ⟨e1, e2, e3⟩ | ⟨e1, e2, e3⟩ | ⟨e1, e2, e3⟩ | ⟨e1, e2, e3⟩ | ⟨e1, e2, e3⟩ <;> subst e1 e2 e3
      · exact Or.inr (Or.inl ⟨rfl, by omega, by omega⟩)
      · exfalso; omega
      · exact Or.inr (Or.inr (Or.inr (Or.inr (Or.inl ⟨rfl, by omega, by omega⟩))))
      · exact Or.inr (Or.inr (Or.inr (Or.inr (Or.inr (⟨rfl, by omega, by omega⟩)))))
      · exfalso; omega
      · exfalso; omega
    | b h hp ih =>
      rcases ih with ⟨e1, e2, e3⟩ | ⟨e1, e2, e3⟩ | ⟨e1, e2, e3⟩ | ⟨e1, e2, e3⟩ | ⟨e1, e2, e3⟩ | ⟨e1, e2, e3⟩ <;> subst e1 e2 e3
      · exact Or.inr (Or.inr (Or.inl ⟨rfl, by omega, by omega⟩))
      · exact Or.inr (Or.inr (Or.inr (Or.inl ⟨rfl, by omega, by omega⟩)))
      · exfalso; omega
      · exfalso; omega
      · exact Or.inr (Or.inr (Or.inr (Or.inr (Or.inr (⟨rfl, by omega, by omega⟩)))))
      · exfalso; omega
  have a0 : Asc x y 1 1 0 0 0 := Asc.zero
  have a1 : Asc x y 1 1 1 (1 * x + 0 * y) (0 * x + 0 * y) := (Asc.a a0 (by omega)).cast rfl (by omega) (by omega)
  have a2 : Asc x y 1 1 2 (1 * x + 0 * y) (1 * x + 1 * y) := (Asc.b a1 (by omega)).cast rfl (by omega) (by omega)
  have b1 : Asc x y 1 1 1 (0 * x + 0 * y) (0 * x + 1 * y) := (Asc.b a0 (by omega)).cast rfl (by omega) (by omega)
  have b2 : Asc x y 1 1 2 (1 * x + 1 * y) (0 * x + 1 * y) := (Asc.a b1 (by omega)).cast rfl (by omega) (by omega)
  rcases st with ⟨e1, e2, e3⟩ | ⟨e1, e2, e3⟩ | ⟨e1, e2, e3⟩ | ⟨e1, e2, e3⟩ | ⟨e1, e2, e3⟩ | ⟨e1, e2, e3⟩ <;> subst e1 e2 e3
  · exact ⟨⟨by omega, by omega⟩, fun hn => absurd hn (by omega), fun hn => absurd hn (by omega), fun hm => absurd hm (by decide)⟩
  · exact ⟨⟨by omega, by omega⟩, fun hn => ⟨0, rfl, a0.cast rfl (by omega) (by omega)⟩, fun hn => absurd hn (by omega), fun hm => absurd hm (by decide)⟩
  · exact ⟨⟨by omega, by omega⟩, fun hn => absurd hn (by omega), fun hn => ⟨0, rfl, a0.cast rfl (by omega) (by omega)⟩, fun hm => absurd hm (by decide)⟩
  · exact ⟨⟨by omega, by omega⟩, fun hn => absurd hn (by omega), fun hn => ⟨1, rfl, a1.cast rfl (by omega) (by omega)⟩, fun hm => absurd hm (by decide)⟩
  · exact ⟨⟨by omega, by omega⟩, fun hn => ⟨1, rfl, b1.cast rfl (by omega) (by omega)⟩, fun hn => absurd hn (by omega), fun hm => absurd hm (by decide)⟩
  · exact ⟨⟨by omega, by omega⟩, fun hn => ⟨2, rfl, a2.cast rfl (by omega) (by omega)⟩, fun hn => ⟨2, rfl, b2.cast rfl (by omega) (by omega)⟩, fun hm => absurd hm (by decide)⟩
theorem dih_4_1_2 {x y : Int} (hx : 0 < x) (hy : 0 < y) {l : Nat} {A B : Int} (h : Asc x y 1 2 l A B) : Dih 4 x y 1 2 l A B := by
  have st : (l = 0 ∧ A = (0 * x + 0 * y) ∧ B = (0 * x + 0 * y)) ∨ (l = 1 ∧ A = (1 * x + 0 * y) ∧ B = (0 * x + 0 * y)) ∨ (l = 1 ∧ A = (0 * x + 0 * y) ∧ B = (0 * x + 1 * y)) ∨ (l = 2 ∧ A = (1 * x + 0 * y) ∧ B = (1 * x + 1 * y)) ∨ (l = 2 ∧ A = (1 * x + 2 * y) ∧ B = (0 * x + 1 * y)) ∨ (l = 3 ∧ A = (2 * x + 2 * y) ∧ B = (1 * x + 1 * y)) ∨ (l = 3 ∧ A = (1 * x + 2 * y) ∧ B = (1 * x + 2 * y)) ∨ (l = 4 ∧ A = (2 * x + 2 * y) ∧ B = (1 * x + 2 * y)) := by
    induction h with
    | zero => exact Or.inl ⟨rfl, by omega, by omega⟩
    | a h hp ih =>
      rcases ih with ⟨e1, e2, e3⟩ | ⟨e1, e2, e3⟩ | ⟨e1, e2, e3⟩ | ⟨e1, e2, e3⟩ | ⟨e1, e2, e3⟩ | ⟨e1, e2, e3⟩ | ⟨e1, e2, e3⟩ | ⟨e1, e2, e3⟩ <;> subst e1 e2 e3
      · exact Or.inr (Or.inl ⟨rfl, by omega, by omega⟩)
      · exfalso; omega
      · exact Or.inr (Or.inr (Or.inr (Or.inr (Or.inl ⟨rfl, by omega, by omega⟩))))
      · exact Or.inr (Or.inr (Or.inr (Or.inr (Or.inr (Or.inl ⟨rfl, by omega, by omega⟩)))))
      · exfalso; omega
      · exfalso; omega
      · exact Or.inr (Or.inr (Or.inr (Or.inr (Or.inr (Or.inr (Or.inr (⟨rfl, by omega, by omega⟩)))))))
      · exfalso; omega
    | b h hp ih =>
      rcases ih with ⟨e1, e2, e3⟩ | ⟨e1, e2, e3⟩ | ⟨e1, e2, e3⟩ | ⟨e1, e2, e3⟩ | ⟨e1, e2, e3⟩ | ⟨e1, e2, e3⟩ | ⟨e1, e2, e3⟩ | ⟨e1, e2, e3⟩ <;> subst e1 e2 e3
      · exact Or.inr (Or.inr (Or.inl ⟨rfl, by omega, by omega⟩))
      · exact Or.inr (Or.inr (Or.inr (Or.inl ⟨rfl, by omega, by omega⟩)))
      · exfalso; omega
      · exfalso; omega
      · exact Or.inr (Or.inr (Or.inr (Or.inr (Or.inr (Or.inr (Or.inl ⟨rfl, by omega, by omega⟩))))))
      · exact Or.inr (Or.inr (Or.inr (Or.inr (Or.inr (Or.inr (Or.inr (⟨rfl, by omega, by omega⟩)))))))
      · exfalso; omega
      · exfalso; omega
  have a0 : Asc x y 1 2 0 0 0 := Asc.zero
  have a1 : Asc x y 1 2 1 (1 * x + 0 * y) (0 * x + 0 * y) := (Asc.a a0 (by omega)).cast rfl (by omega) (by omega)
  have a2 : Asc x y 1 2 2 (1 * x + 0 * y) (1 * x + 1 * y) := (Asc.b a1 (by omega)).cast rfl (by omega) (by omega)
  have a3 : Asc x y 1 2 3 (2 * x + 2 * y) (1 * x + 1 * y) := (Asc.a a2 (by omega)).cast rfl (by omega) (by omega)
  have b1 : Asc x y 1 2 1 (0 * x + 0 * y) (0 * x + 1 * y) := (Asc.b a0 (by omega)).cast rfl (by omega) (by omega)
  have b2 : Asc x y 1 2 2 (1 * x + 2 * y) (0 * x + 1 * y) := (Asc.a b1 (by omega)).cast rfl (by omega) (by omega)
  have b3 : Asc x y 1 2 3 (1 * x + 2 * y) (1 * x + 2 * y) := (Asc.b b2 (by omega)).cast rfl (by omega) (by omega)
  rcases st with ⟨e1, e2, e3⟩ | ⟨e1, e2, e3⟩ | ⟨e1, e2, e3⟩ | ⟨e1, e2, e3⟩ | ⟨e1, e2, e3⟩ | ⟨e1, e2, e3⟩ | ⟨e1, e2, e3⟩ | ⟨e1, e2, e3⟩ <;> subst e1 e2 e3
  · exact ⟨⟨by omega, by omega⟩, fun hn => absurd hn (by omega), fun hn => absurd hn (by omega), fun hm => absurd hm (by decide)⟩
  · exact ⟨⟨by omega, by omega⟩, fun hn => ⟨0, rfl, a0.cast rfl (by omega) (by omega)⟩, fun hn => absurd hn (by omega), fun hm => absurd hm (by decide)⟩
  · exact ⟨⟨by omega, by omega⟩, fun hn => absurd hn (by omega), fun hn => ⟨0, rfl, a0.cast rfl (by omega) (by omega)⟩, fun hm => absurd hm (by decide)⟩
  · exact ⟨⟨by omega, by omega⟩, fun hn => absurd hn (by omega), fun hn => ⟨1, rfl, a1.cast rfl (by omega) (by omega)⟩, fun hm => absurd hm (by decide)⟩
  · exact ⟨⟨by omega, by omega⟩, fun hn => ⟨1, rfl, b1.cast rfl (by omega) (by omega)⟩, fun hn => absurd hn (by omega), fun hm => absurd hm (by decide)⟩
  · exact ⟨⟨by omega, by omega⟩, fun hn => ⟨2, rfl, a2.cast rfl (by omega) (by omega)⟩, fun hn => absurd hn (by omega), fun hm => absurd hm (by decide)⟩
  · exact ⟨⟨by omega, by omega⟩, fun hn => absurd hn (by omega), fun hn => ⟨2, rfl, b2.cast rfl (by omega) (by omega)⟩, fun hm => absurd hm (by decide)⟩
  · exact ⟨⟨by omega, by omega⟩, fun hn => ⟨3, rfl, b3.cast rfl (by omega) (by omega)⟩, fun hn => ⟨3, rfl, a3.cast rfl (by omega) (by omega)⟩, fun hm => absurd hm (by decide)⟩
theorem dih_4_2_1 {x y : Int} (hx : 0 < x) (hy : 0 < y) {l : Nat} {A B : Int} (h : Asc x y 2 1 l A B) : Dih 4 x y 2 1 l A B := by
  have st : (l = 0 ∧ A = (0 * x + 0 * y) ∧ B = (0 * x + 0 * y)) ∨ (l = 1 ∧ A = (1 * x + 0 * y) ∧ B = (0 * x + 0 * y)) ∨ (l = 1 ∧ A = (0 * x + 0 * y) ∧ B = (0 * x + 1 * y)) ∨ (l = 2 ∧ A = (1 * x + 0 * y) ∧ B = (2 * x + 1 * y)) ∨ (l = 2 ∧ A = (1 * x + 1 * y) ∧ B = (0 * x + 1 * y)) ∨ (l = 3 ∧ A = (2 * x + 1 * y) ∧ B = (2 * x + 1 * y)) ∨ (l = 3 ∧ A = (1 * x + 1 * y) ∧ B = (2 * x + 2 * y)) ∨ (l = 4 ∧ A = (2 * x + 1 * y) ∧ B = (2 * x + 2 * y)) := by
    induction h with
    | zero => exact Or.inl ⟨rfl, by omega, by omega⟩
    | a h hp ih =>
      rcases ih with ⟨e1, e2, e3⟩ | ⟨e1, e2, e3⟩ | ⟨e1, e2, e3⟩ | ⟨e1, e2, e3⟩ | ⟨e1, e2, e3⟩ | ⟨e1, e2, e3⟩ | ⟨e1, e2, e3⟩ | ⟨e1, e2, e3⟩ <;> subst e1 e2 e3
      · exact Or.inr (Or.inl ⟨rfl, by omega, by omega⟩)
      · exfalso; omega
      · exact Or.inr (Or.inr (Or.inr (Or.inr (Or.inl ⟨rfl, by omega, by omega⟩))))
      · exact Or.inr (Or.inr (Or.inr (Or.inr (Or.inr (Or.inl ⟨rfl, by omega, by omega⟩)))))
      · exfalso; omega
      · exfalso; omega
      · exact Or.inr (Or.inr (Or.inr (Or.inr (Or.inr (Or.inr (Or.inr (⟨rfl, by omega, by omega⟩)))))))
      · exfalso; omega
    | b h hp ih =>
      rcases ih with ⟨e1, e2, e3⟩ | ⟨e1, e2, e3⟩ | ⟨e1, e2, e3⟩ | ⟨e1, e2, e3⟩ | ⟨e1, e2, e3⟩ | ⟨e1, e2, e3⟩ | ⟨e1, e2, e3⟩ | ⟨e1, e2, e3⟩ <;> subst e1 e2 e3
      · exact Or.inr (Or.inr (Or.inl ⟨rfl, by omega, by omega⟩))
      · exact Or.inr (Or.inr (Or.inr (Or.inl ⟨rfl, by omega, by omega⟩)))
      · exfalso; omega
      · exfalso; omega
      · exact Or.inr (Or.inr (Or.inr (Or.inr (Or.inr (Or.inr (Or.inl ⟨rfl, by omega, by omega⟩))))))
      · exact Or.inr (Or.inr (Or.inr (Or.inr (Or.inr (Or.inr (Or.inr (⟨rfl, by omega, by omega⟩)))))))
      · exfalso; omega
      · exfalso; omega
  have a0 : Asc x y 2 1 0 0 0 := Asc.zero
  have a1 : Asc x y 2 1 1 (1 * x + 0 * y) (0 * x + 0 * y) := (Asc.a a0 (by omega)).cast rfl (by omega) (by omega)
  have a2 : Asc x y 2 1 2 (1 * x + 0 * y) (2 * x + 1 * y) := (Asc.b a1 (by omega)).cast rfl (by omega) (by omega)
  have a3 : Asc x y 2 1 3 (2 * x + 1 * y) (2 * x + 1 * y) := (Asc.a a2 (by omega)).cast rfl (by omega) (by omega)
  have b1 : Asc x y 2 1 1 (0 * x + 0 * y) (0 * x + 1 * y) := (Asc.b a0 (by omega)).cast rfl (by omega) (by omega)
  have b2 : Asc x y 2 1 2 (1 * x + 1 * y) (0 * x + 1 * y) := (Asc.a b1 (by omega)).cast rfl (by omega) (by omega)
  have b3 : Asc x y 2 1 3 (1 * x + 1 * y) (2 * x + 2 * y) := (Asc.b b2 (by omega)).cast rfl (by omega) (by omega)
  rcases st with ⟨e1, e2, e3⟩ | ⟨e1, e2, e3⟩ | ⟨e1, e2, e3⟩ | ⟨e1, e2, e3⟩ | ⟨e1, e2, e3⟩ | ⟨e1, e2, e3⟩ | ⟨e1, e2, e3⟩ | ⟨e1, e2, e3⟩ <;> subst e1 e2 e3
  · exact ⟨⟨by omega, by omega⟩, fun hn => absurd hn (by omega), fun hn => absurd hn (by omega), fun hm => absurd hm (by decide)⟩
  · exact ⟨⟨by omega, by omega⟩, fun hn => ⟨0, rfl, a0.cast rfl (by omega) (by omega)⟩, fun hn => absurd hn (by omega), fun hm => absurd hm (by decide)⟩
  · exact ⟨⟨by omega, by omega⟩, fun hn => absurd hn (by omega), fun hn => ⟨0, rfl, a0.cast rfl (by omega) (by omega)⟩, fun hm => absurd hm (by decide)⟩
  · exact ⟨⟨by omega, by omega⟩, fun hn => absurd hn (by omega), fun hn => ⟨1, rfl, a1.cast rfl (by omega) (by omega)⟩, fun hm => absurd hm (by decide)⟩
  · exact ⟨⟨by omega, by omega⟩, fun hn => ⟨1, rfl, b1.cast rfl (by omega) (by omega)⟩, fun hn => absurd hn (by omega), fun hm => absurd hm (by decide)⟩
  · exact ⟨⟨by omega, by omega⟩, fun hn => ⟨2, rfl, a2.cast rfl (by omega) (by omega)⟩, fun hn => absurd hn (by omega), fun hm => absurd hm (by decide)⟩
  · exact ⟨⟨by omega, by omega⟩, fun hn => absurd hn (by omega), fun hn => ⟨2, rfl, b2.cast rfl (by omega) (by omega)⟩, fun hm => absurd hm (by decide)⟩
  · exact ⟨⟨by omega, by omega⟩, fun hn => ⟨3, rfl, b3.cast rfl (by omega) (by omega)⟩, fun hn => ⟨3, rfl, a3.cast rfl (by omega) (by omega)⟩, fun hm => absurd hm (by decide)⟩
theorem dih_6_1_3 {x y : Int} (hx : 0 < x) (hy : 0 < y) {l : Nat} {A B : Int} (h : Asc x y 1 3 l A B) : Dih 6 x y 1 3 l A B := by
  have st : (l = 0 ∧ A = (0 * x + 0 * y) ∧ B = (0 * x + 0 * y)) ∨ (l = 1 ∧ A = (1 * x + 0 * y) ∧ B = (0 * x + 0 * y)) ∨ (l = 1 ∧ A = (0 * x + 0 * y) ∧ B = (0 * x + 1 * y)) ∨ (l = 2 ∧ A = (1 * x + 0 * y) ∧ B = (1 * x + 1 * y)) ∨ (l = 2 ∧ A = (1 * x + 3 * y) ∧ B = (0 * x + 1 * y)) ∨ (l = 3 ∧ A = (3 * x + 3 * y) ∧ B = (1 * x + 1 * y)) ∨ (l = 3 ∧ A = (1 * x + 3 * y) ∧ B = (1 * x + 3 * y)) ∨ (l = 4 ∧ A = (3 * x + 3 * y) ∧ B = (2 * x + 3 * y)) ∨ (l = 4 ∧ A = (3 * x + 6 * y) ∧ B = (1 * x + 3 * y)) ∨ (l = 5 ∧ A = (4 * x + 6 * y) ∧ B = (2 * x + 3 * y)) ∨ (l = 5 ∧ A = (3 * x + 6 * y) ∧ B = (2 * x + 4 * y)) ∨ (l = 6 ∧ A = (4 * x + 6 * y) ∧ B = (2 * x + 4 * y)) := by
    induction h with
    | zero => exact Or.inl ⟨rfl, by omega, by omega⟩
    | a h hp ih =>
      rcases ih with ⟨e1, e2, e3⟩ | ⟨e1, e2, e3⟩ | ⟨e1, e2, e3⟩ | ⟨e1, e2, e3⟩ | ⟨e1, e2, e3⟩ | ⟨e1, e2, e3⟩ | ⟨e1, e2, e3⟩ | ⟨e1, e2, e3⟩ | ⟨e1, e2, e3⟩ | ⟨e1, e2, e3⟩ | ⟨e1, e2, e3⟩ | ⟨e1, e2, e3⟩ <;> subst e1 e2 e3
      · exact Or.inr (Or.inl ⟨rfl, by omega, by omega⟩)
      · exfalso; omega
      · exact Or.inr (Or.inr (Or.inr (Or.inr (Or.inl ⟨rfl, by omega, by omega⟩))))
      · exact Or.inr (Or.inr (Or.inr (Or.inr (Or.inr (Or.inl ⟨rfl, by omega, by omega⟩)))))
      · exfalso; omega
      · exfalso; omega
      · exact Or.inr (Or.inr (Or.inr (Or.inr (Or.inr (Or.inr (Or.inr (Or.inr (Or.inl ⟨rfl, by omega, by omega⟩))))))))
      · exact Or.inr (Or.inr (Or.inr (Or.inr (Or.inr (Or.inr (Or.inr (Or.inr (Or.inr (Or.inl ⟨rfl, by omega, by omega⟩)))))))))
      · exfalso; omega
      · exfalso; omega
      · exact Or.inr (Or.inr (Or.inr (Or.inr (Or.inr (Or.inr (Or.inr (Or.inr (Or.inr (Or.inr (Or.inr (⟨rfl, by omega, by omega⟩)))))))))))
      · exfalso; omega
    | b h hp ih =>
      rcases ih with ⟨e1, e2, e3⟩ | ⟨e1, e2, e3⟩ | ⟨e1, e2, e3⟩ | ⟨e1, e2, e3⟩ | ⟨e1, e2, e3⟩ | ⟨e1, e2, e3⟩ | ⟨e1, e2, e3⟩ | ⟨e1, e2, e3⟩ | ⟨e1, e2, e3⟩ | ⟨e1, e2, e3⟩ | ⟨e1, e2, e3⟩ | ⟨e1, e2, e3⟩ <;> subst e1 e2 e3
      · exact Or.inr (Or.inr (Or.inl ⟨rfl, by omega, by omega⟩))
      · exact Or.inr (Or.inr (Or.inr (Or.inl ⟨rfl, by omega, by omega⟩)))
      · exfalso; omega
      · exfalso; omega
      · exact Or.inr (Or.inr (Or.inr (Or.inr (Or.inr (Or.inr (Or.inl ⟨rfl, by omega, by omega⟩))))))
      · exact Or.inr (Or.inr (Or.inr (Or.inr (Or.inr (Or.inr (Or.inr (Or.inl ⟨rfl, by omega, by omega⟩)))))))
      · exfalso; omega
      · exfalso; omega
      · exact Or.inr (Or.inr (Or.inr (Or.inr (Or.inr (Or.inr (Or.inr (Or.inr (Or.inr (Or.inr (Or.inl ⟨rfl, by omega, by omega⟩))))))))))
      · exact Or.inr (Or.inr (Or.inr (Or.inr (Or.inr (Or.inr (Or.inr (Or.inr (Or.inr (Or.inr (Or.inr (⟨rfl, by omega, by omega⟩)))))))))))
      · exfalso; omega
      · exfalso; omega
  have a0 : Asc x y 1 3 0 0 0 := Asc.zero
  have a1 : Asc x y 1 3 1 (1 * x + 0 * y) (0 * x + 0 * y) := (Asc.a a0 (by omega)).cast rfl (by omega) (by omega)
  have a2 : Asc x y 1 3 2 (1 * x + 0 * y) (1 * x + 1 * y) := (Asc.b a1 (by omega)).cast rfl (by omega) (by omega)
  have a3 : Asc x y 1 3 3 (3 * x + 3 * y) (1 * x + 1 * y) := (Asc.a a2 (by omega)).cast rfl (by omega) (by omega)
  have a4 : Asc x y 1 3 4 (3 * x + 3 * y) (2 * x + 3 * y) := (Asc.b a3 (by omega)).cast rfl (by omega) (by omega)
  have a5 : Asc x y 1 3 5 (4 * x + 6 * y) (2 * x + 3 * y) := (Asc.a a4 (by omega)).cast rfl (by omega) (by omega)
  have b1 : Asc x y 1 3 1 (0 * x + 0 * y) (0 * x + 1 * y) := (Asc.b a0 (by omega)).cast rfl (by omega) (by omega)
  have b2 : Asc x y 1 3 2 (1 * x + 3 * y) (0 * x + 1 * y) := (Asc.a b1 (by omega)).cast rfl (by omega) (by omega)
  have b3 : Asc x y 1 3 3 (1 * x + 3 * y) (1 * x + 3 * y) := (Asc.b b2 (by omega)).cast rfl (by omega) (by omega)
  have b4 : Asc x y 1 3 4 (3 * x + 6 * y) (1 * x + 3 * y) := (Asc.a b3 (by omega)).cast rfl (by omega) (by omega)
  have b5 : Asc x y 1 3 5 (3 * x + 6 * y) (2 * x + 4 * y) := (Asc.b b4 (by omega)).cast rfl (by omega) (by omega)
  rcases st with ⟨e1, e2, e3⟩ | ⟨e1, e2, e3⟩ | ⟨e1, e2, e3⟩ | ⟨e1, e2, e3⟩ | ⟨e1, e2, e3⟩ | ⟨e1, e2, e3⟩ | ⟨e1, e2, e3⟩ | ⟨e1, e2, e3⟩ | ⟨e1, e2, e3⟩ | ⟨e1, e2, e3⟩ | ⟨e1, e2, e3⟩ | ⟨e1, e2, e3⟩ <;> subst e1 e2 e3
  · exact ⟨⟨by omega, by omega⟩, fun hn => absurd hn (by omega), fun hn => absurd hn (by omega), fun hm => absurd hm (by decide)⟩
  · exact ⟨⟨by omega, by omega⟩, fun hn => ⟨0, rfl, a0.cast rfl (by omega) (by omega)⟩, fun hn => absurd hn (by omega), fun hm => absurd hm (by decide)⟩
  · exact ⟨⟨by omega, by omega⟩, fun hn => absurd hn (by omega), fun hn => ⟨0, rfl, a0.cast rfl (by omega) (by omega)⟩, fun hm => absurd hm (by decide)⟩
  · exact ⟨⟨by omega, by omega⟩, fun hn => absurd hn (by omega), fun hn => ⟨1, rfl, a1.cast rfl (by omega) (by omega)⟩, fun hm => absurd hm (by decide)⟩
  · exact ⟨⟨by omega, by omega⟩, fun hn => ⟨1, rfl, b1.cast rfl (by omega) (by omega)⟩, fun hn => absurd hn (by omega), fun hm => absurd hm (by decide)⟩
  · exact ⟨⟨by omega, by omega⟩, fun hn => ⟨2, rfl, a2.cast rfl (by omega) (by omega)⟩, fun hn => absurd hn (by omega), fun hm => absurd hm (by decide)⟩
  · exact ⟨⟨by omega, by omega⟩, fun hn => absurd hn (by omega), fun hn => ⟨2, rfl, b2.cast rfl (by omega) (by omega)⟩, fun hm => absurd hm (by decide)⟩
  · exact ⟨⟨by omega, by omega⟩, fun hn => absurd hn (by omega), fun hn => ⟨3, rfl, a3.cast rfl (by omega) (by omega)⟩, fun hm => absurd hm (by decide)⟩
  · exact ⟨⟨by omega, by omega⟩, fun hn => ⟨3, rfl, b3.cast rfl (by omega) (by omega)⟩, fun hn => absurd hn (by omega), fun hm => absurd hm (by decide)⟩
  · exact ⟨⟨by omega, by omega⟩, fun hn => ⟨4, rfl, a4.cast rfl (by omega) (by omega)⟩, fun hn => absurd hn (by omega), fun hm => absurd hm (by decide)⟩
  · exact ⟨⟨by omega, by omega⟩, fun hn => absurd hn (by omega), fun hn => ⟨4, rfl, b4.cast rfl (by omega) (by omega)⟩, fun hm => absurd hm (by decide)⟩
  · exact ⟨⟨by omega, by omega⟩, fun hn => ⟨5, rfl, b5.cast rfl (by omega) (by omega)⟩, fun hn => ⟨5, rfl, a5.cast rfl (by omega) (by omega)⟩, fun hm => absurd hm (by decide)⟩
theorem dih_6_3_1 {x y : Int} (hx : 0 < x) (hy : 0 < y) {l : Nat} {A B : Int} (h : Asc x y 3 1 l A B) : Dih 6 x y 3 1 l A B := by
  have st : (l = 0 ∧ A = (0 * x + 0 * y) ∧ B = (0 * x + 0 * y)) ∨ (l = 1 ∧ A = (1 * x + 0 * y) ∧ B = (0 * x + 0 * y)) ∨ (l = 1 ∧ A = (0 * x + 0 * y) ∧ B = (0 * x + 1 * y)) ∨ (l = 2 ∧ A = (1 * x + 0 * y) ∧ B = (3 * x + 1 * y)) ∨ (l = 2 ∧ A = (1 * x + 1 * y) ∧ B = (0 * x + 1 * y)) ∨ (l = 3 ∧ A = (3 * x + 1 * y) ∧ B = (3 * x + 1 * y)) ∨ (l = 3 ∧ A = (1 * x + 1 * y) ∧ B = (3 * x + 3 * y)) ∨ (l = 4 ∧ A = (3 * x + 1 * y) ∧ B = (6 * x + 3 * y)) ∨ (l = 4 ∧ A = (3 * x + 2 * y) ∧ B = (3 * x + 3 * y)) ∨ (l = 5 ∧ A = (4 * x + 2 * y) ∧ B = (6 * x + 3 * y)) ∨ (l = 5 ∧ A = (3 * x + 2 * y) ∧ B = (6 * x + 4 * y)) ∨ (l = 6 ∧ A = (4 * x + 2 * y) ∧ B = (6 * x + 4 * y)) := by
    induction h with
    | zero => exact Or.inl ⟨rfl, by omega, by omega⟩
    | a h hp ih =>
      rcases ih with ⟨e1, e2, e3⟩ | ⟨e1, e2, e3⟩ | ⟨e1, e2, e3⟩ | ⟨e1, e2, e3⟩ | ⟨e1, e2, e3⟩ | ⟨e1, e2, e3⟩ | ⟨e1, e2, e3⟩ | ⟨e1, e2, e3⟩ | ⟨e1, e2, e3⟩ | ⟨e1, e2, e3⟩ | ⟨e1, e2, e3⟩ | ⟨e1, e2, e3⟩ <;> subst e1 e2 e3
      · exact Or.inr (Or.inl ⟨rfl, by omega, by omega⟩)
      · exfalso; omega
      · exact Or.inr (Or.inr (Or.inr (Or.inr (Or.inl ⟨rfl, by omega, by omega⟩))))
      · exact Or.inr (Or.inr (Or.inr (Or.inr (Or.inr (Or.inl ⟨rfl, by omega, by omega⟩)))))
      · exfalso; omega
      · exfalso; omega
      · exact Or.inr (Or.inr (Or.inr (Or.inr (Or.inr (Or.inr (Or.inr (Or.inr (Or.inl ⟨rfl, by omega, by omega⟩))))))))
      · exact Or.inr (Or.inr (Or.inr (Or.inr (Or.inr (Or.inr (Or.inr (Or.inr (Or.inr (Or.inl ⟨rfl, by omega, by omega⟩)))))))))
      · exfalso; omega
      · exfalso; omega
      · exact Or.inr (Or.inr (Or.inr (Or.inr (Or.inr (Or.inr (Or.inr (Or.inr (Or.inr (Or.inr (Or.inr (⟨rfl, by omega, by omega⟩)))))))))))
      · exfalso; omega
    | b h hp ih =>
      rcases ih with ⟨e1, e2, e3⟩ | ⟨e1, e2, e3⟩ | ⟨e1, e2, e3⟩ | ⟨e1, e2, e3⟩ | ⟨e1, e2, e3⟩ | ⟨e1, e2, e3⟩ | ⟨e1, e2, e3⟩ | ⟨e1, e2, e3⟩ | ⟨e1, e2, e3⟩ | ⟨e1, e2, e3⟩ | ⟨e1, e2, e3⟩ | ⟨e1, e2, e3⟩ <;> subst e1 e2 e3
      · exact Or.inr (Or.inr (Or.inl ⟨rfl, by omega, by omega⟩))
      · exact Or.inr (Or.inr (Or.inr (Or.inl ⟨rfl, by omega, by omega⟩)))
      · exfalso; omega
      · exfalso; omega
      · exact Or.inr (Or.inr (Or.inr (Or.inr (Or.inr (Or.inr (Or.inl ⟨rfl, by omega, by omega⟩))))))
      · exact Or.inr (Or.inr (Or.inr (Or.inr (Or.inr (Or.inr (Or.inr (Or.inl ⟨rfl, by omega, by omega⟩)))))))
      · exfalso; omega
      · exfalso; omega
      · exact Or.inr (Or.inr (Or.inr (Or.inr (Or.inr (Or.inr (Or.inr (Or.inr (Or.inr (Or.inr (Or.inl ⟨rfl, by omega, by omega⟩))))))))))
      · exact Or.inr (Or.inr (Or.inr (Or.inr (Or.inr (Or.inr (Or.inr (Or.inr (Or.inr (Or.inr (Or.inr (⟨rfl, by omega, by omega⟩)))))))))))
      · exfalso; omega
      · exfalso; omega
  have a0 : Asc x y 3 1 0 0 0 := Asc.zero
  have a1 : Asc x y 3 1 1 (1 * x + 0 * y) (0 * x + 0 * y) := (Asc.a a0 (by omega)).cast rfl (by omega) (by omega)
  have a2 : Asc x y 3 1 2 (1 * x + 0 * y) (3 * x + 1 * y) := (Asc.b a1 (by omega)).cast rfl (by omega) (by omega)
  have a3 : Asc x y 3 1 3 (3 * x + 1 * y) (3 * x + 1 * y) := (Asc.a a2 (by omega)).cast rfl (by omega) (by omega)
  have a4 : Asc x y 3 1 4 (3 * x + 1 * y) (6 * x + 3 * y) := (Asc.b a3 (by omega)).cast rfl (by omega) (by omega)
  have a5 : Asc x y 3 1 5 (4 * x + 2 * y) (6 * x + 3 * y) := (Asc.a a4 (by omega)).cast rfl (by omega) (by omega)
  have b1 : Asc x y 3 1 1 (0 * x + 0 * y) (0 * x + 1 * y) := (Asc.b a0 (by omega)).cast rfl (by omega) (by omega)
  have b2 : Asc x y 3 1 2 (1 * x + 1 * y) (0 * x + 1 * y) := (Asc.a b1 (by omega)).cast rfl (by omega) (by omega)
  have b3 : Asc x y 3 1 3 (1 * x + 1 * y) (3 * x + 3 * y) := (Asc.b b2 (by omega)).cast rfl (by omega) (by omega)
  have b4 : Asc x y 3 1 4 (3 * x + 2 * y) (3 * x + 3 * y) := (Asc.a b3 (by omega)).cast rfl (by omega) (by omega)
  have b5 : Asc x y 3 1 5 (3 * x + 2 * y) (6 * x + 4 * y) := (Asc.b b4 (by omega)).cast rfl (by omega) (by omega)
  rcases st with ⟨e1, e2, e3⟩ | ⟨e1, e2, e3⟩ | ⟨e1, e2, e3⟩ | ⟨e1, e2, e3⟩ | ⟨e1, e2, e3⟩ | ⟨e1, e2, e3⟩ | ⟨e1, e2, e3⟩ | ⟨e1, e2, e3⟩ | ⟨e1, e2, e3⟩ | ⟨e1, e2, e3⟩ | ⟨e1, e2, e3⟩ | ⟨e1, e2, e3⟩ <;> subst e1 e2 e3
  · exact ⟨⟨by omega, by omega⟩, fun hn => absurd hn (by omega), fun hn => absurd hn (by omega), fun hm => absurd hm (by decide)⟩
  · exact ⟨⟨by omega, by omega⟩, fun hn => ⟨0, rfl, a0.cast rfl (by omega) (by omega)⟩, fun hn => absurd hn (by omega), fun hm => absurd hm (by decide)⟩
  · exact ⟨⟨by omega, by omega⟩, fun hn => absurd hn (by omega), fun hn => ⟨0, rfl, a0.cast rfl (by omega) (by omega)⟩, fun hm => absurd hm (by decide)⟩
  · exact ⟨⟨by omega, by omega⟩, fun hn => absurd hn (by omega), fun hn => ⟨1, rfl, a1.cast rfl (by omega) (by omega)⟩, fun hm => absurd hm (by decide)⟩
  · exact ⟨⟨by omega, by omega⟩, fun hn => ⟨1, rfl, b1.cast rfl (by omega) (by omega)⟩, fun hn => absurd hn (by omega), fun hm => absurd hm (by decide)⟩
  · exact ⟨⟨by omega, by omega⟩, fun hn => ⟨2, rfl, a2.cast rfl (by omega) (by omega)⟩, fun hn => absurd hn (by omega), fun hm => absurd hm (by decide)⟩
  · exact ⟨⟨by omega, by omega⟩, fun hn => absurd hn (by omega), fun hn => ⟨2, rfl, b2.cast rfl (by omega) (by omega)⟩, fun hm => absurd hm (by decide)⟩
  · exact ⟨⟨by omega, by omega⟩, fun hn => absurd hn (by omega), fun hn => ⟨3, rfl, a3.cast rfl (by omega) (by omega)⟩, fun hm => absurd hm (by decide)⟩
  · exact ⟨⟨by omega, by omega⟩, fun hn => ⟨3, rfl, b3.cast rfl (by omega) (by omega)⟩, fun hn => absurd hn (by omega), fun hm => absurd hm (by decide)⟩
  · exact ⟨⟨by omega, by omega⟩, fun hn => ⟨4, rfl, a4.cast rfl (by omega) (by omega)⟩, fun hn => absurd hn (by omega), fun hm => absurd hm (by decide)⟩
  · exact ⟨⟨by omega, by omega⟩, fun hn => absurd hn (by omega), fun hn => ⟨4, rfl, b4.cast rfl (by omega) (by omega)⟩, fun hm => absurd hm (by decide)⟩
  · exact ⟨⟨by omega, by omega⟩, fun hn => ⟨5, rfl, b5.cast rfl (by omega) (by omega)⟩, fun hn => ⟨5, rfl, a5.cast rfl (by omega) (by omega)⟩, fun hm => absurd hm (by decide)⟩
theorem dih_0_2_2 {x y : Int} (hx : 0 < x) (hy : 0 < y) {l : Nat} {A B : Int} (h : Asc x y 2 2 l A B) : Dih 0 x y 2 2 l A B := by
  have st : ∀ {l : Nat} {A B : Int}, Asc x y 2 2 l A B → (A = 0 ∧ B = 0) ∨ (x - 2 * A + 2 * B < 0 ∧ 0 < y + 2 * A - 2 * B) ∨ (0 < x - 2 * A + 2 * B ∧ y + 2 * A - 2 * B < 0) := by
    intro l A B h
    induction h with
    | zero => exact Or.inl ⟨rfl, rfl⟩
    | a h hp ih => exact Or.inr (Or.inl (by omega))
    | b h hp ih => exact Or.inr (Or.inr (by omega))
  have s := st h
  refine ⟨⟨by omega, by omega⟩, fun hn => ?_, fun hn => ?_, fun _ => by omega⟩
  · cases h with
    | zero => omega
    | a h hp => exact ⟨_, rfl, h.cast rfl (by omega) rfl⟩
    | b h hp => have := st h; omega
  · cases h with
    | zero => omega
    | a h hp => have := st h; omega
    | b h hp => exact ⟨_, rfl, h.cast rfl rfl (by omega)⟩
theorem dih {m : Nat} {x y p q : Int} (hk : Kind m p q) (hx : 0 < x) (hy : 0 < y) {l : Nat} {A B : Int} (h : Asc x y p q l A B) : Dih m x y p q l A B := by
  rcases hk with ⟨e1, e2, e3⟩ | ⟨e1, e2, e3⟩ | ⟨e1, e2, e3⟩ | ⟨e1, e2, e3⟩ | ⟨e1, e2, e3⟩ | ⟨e1, e2, e3⟩ | ⟨e1, e2, e3⟩ <;> subst e1 e2 e3
  · exact dih_2_0_0 hx hy h
  · exact dih_3_1_1 hx hy h
  · exact dih_4_1_2 hx hy h
  · exact dih_4_2_1 hx hy h
  · exact dih_6_1_3 hx hy h
  · exact dih_6_3_1 hx hy h
  · exact dih_0_2_2 hx hy h

/-! ### rows that are reached -/
def rho : Row := fun _ => 1
inductive Reach (S : Sys) : Nat → Row → Prop
  | zero : Reach S 0 rho
  | up {k : Nat} {r : Row} {a : Nat} : Reach S k r → a < S.n → 0 < r a → Reach S (k + 1) (press S.w a r)
theorem press_self {S : Sys} {a : Nat} (ha : a < S.n) (r : Row) : press S.w a r a = - r a := by
  show r a + S.w a a * r a = _
  rw [S.diag a ha]
  omega
theorem press_press {S : Sys} {a : Nat} (ha : a < S.n) (r : Row) : press S.w a (press S.w a r) = r := by
  funext c
  show press S.w a r c + S.w a c * press S.w a r a = r c
  rw [press_self ha]
  show r c + S.w a c * r a + S.w a c * (- r a) = r c
  rw [Int.mul_neg]
  omega
/-- r, and A times what a adds, B times what b adds -/
def comb (S : Sys) (a b : Nat) (r : Row) (A B : Int) : Row := fun c => r c + S.w a c * A + S.w b c * B
theorem comb_zero (S : Sys) (a b : Nat) (r : Row) : comb S a b r 0 0 = r := by
  funext c
  simp [comb]
theorem comb_at_a {S : Sys} {a : Nat} (b : Nat) (ha : a < S.n) (r : Row) (A B : Int) : comb S a b r A B a = r a - 2 * A + S.w b a * B := by
  show r a + S.w a a * A + S.w b a * B = _
  rw [S.diag a ha]
  omega
theorem comb_at_b {S : Sys} {b : Nat} (a : Nat) (hb : b < S.n) (r : Row) (A B : Int) : comb S a b r A B b = r b + S.w a b * A - 2 * B := by
  show r b + S.w a b * A + S.w b b * B = _
  rw [S.diag b hb]
  omega
theorem press_comb_a {S : Sys} {a : Nat} (b : Nat) (ha : a < S.n) (r : Row) (A B : Int) : press S.w a (comb S a b r A B) = comb S a b r (r a - A + S.w b a * B) B := by
  funext c
  show comb S a b r A B c + S.w a c * comb S a b r A B a = _
  rw [comb_at_a b ha]
  show r c + S.w a c * A + S.w b c * B + S.w a c * (r a - 2 * A + S.w b a * B) = r c + S.w a c * (r a - A + S.w b a * B) + S.w b c * B
  have e : r a - A + S.w b a * B = A + (r a - 2 * A + S.w b a * B) := by omega
  rw [e]
  generalize r a - 2 * A + S.w b a * B = t
  rw [Int.mul_add]
  omega
theorem press_comb_b {S : Sys} {b : Nat} (a : Nat) (hb : b < S.n) (r : Row) (A B : Int) : press S.w b (comb S a b r A B) = comb S a b r A (r b + S.w a b * A - B) := by
  funext c
  show comb S a b r A B c + S.w b c * comb S a b r A B b = _
  rw [comb_at_b a hb]
  show r c + S.w a c * A + S.w b c * B + S.w b c * (r b + S.w a b * A - 2 * B) = r c + S.w a c * A + S.w b c * (r b + S.w a b * A - B)
  have e : r b + S.w a b * A - B = B + (r b + S.w a b * A - 2 * B) := by omega
  rw [e]
  generalize r b + S.w a b * A - 2 * B = t
  rw [Int.mul_add]
  omega
theorem step_a {S : Sys} {a : Nat} {A B A' q : Int} (b : Nat) (ha : a < S.n) (hq : S.w b a = q) (r : Row) (e : A' = r a - A + q * B) : press S.w a (comb S a b r A B) = comb S a b r A' B := by
  rw [press_comb_a b ha, hq, e]
theorem step_b {S : Sys} {b : Nat} {A B B' p : Int} (a : Nat) (hb : b < S.n) (hp : S.w a b = p) (r : Row) (e : B' = r b + p * A - B) : press S.w b (comb S a b r A B) = comb S a b r A B' := by
  rw [press_comb_b a hb, hp, e]
theorem asc_reach {S : Sys} {a b i : Nat} (ha : a < S.n) (hb : b < S.n) {r : Row} (hr : Reach S i r) {l : Nat} {A B : Int} (h : Asc (r a) (r b) (S.w a b) (S.w b a) l A B) : Reach S (i + l) (comb S a b r A B) := by
  induction h with
  | zero => rw [comb_zero]; exact hr
  | a h hp ih =>
    rw [← press_comb_a b ha]
    exact .up ih ha (by rw [comb_at_a b ha]; exact hp)
  | b h hp ih =>
    rw [← press_comb_b a hb]
    exact .up ih hb (by rw [comb_at_b a hb]; exact hp)
/-- what is to be shown of a row that is reached -/
def Good (S : Sys) (k : Nat) : Prop := ∀ r, Reach S k r → (∀ a, a < S.n → r a ≠ 0) ∧ ∀ a, a < S.n → r a < 0 → ∃ j, k = j + 1 ∧ Reach S j (press S.w a r)
theorem down {S : Sys} {a b : Nat} (ha : a < S.n) (hb : b < S.n) : ∀ (j : Nat), (∀ i, i ≤ j → Good S i) → ∀ r, Reach S j r →
    ∃ r0 i l A B, Reach S i r0 ∧ 0 < r0 a ∧ 0 < r0 b ∧ Asc (r0 a) (r0 b) (S.w a b) (S.w b a) l A B ∧ r = comb S a b r0 A B ∧ j = i + l := by
  intro j
  induction j using Nat.strongRecOn with
  | ind j ih =>
    intro G r hr
    obtain ⟨g1, g2⟩ := G j (Nat.le_refl _) r hr
    have na := g1 a ha
    have nb := g1 b hb
    by_cases h1 : r a < 0
    · obtain ⟨i, e, hi⟩ := g2 a ha h1
      obtain ⟨r0, i0, l, A, B, q1, q2, q3, q4, q5, q6⟩ := ih i (by omega) (fun x hx => G x (by omega)) _ hi
      have e2 : r = press S.w a (comb S a b r0 A B) := by rw [← q5, press_press ha]
      refine ⟨r0, i0, l + 1, _, _, q1, q2, q3, Asc.a q4 ?_, e2.trans (press_comb_a b ha _ _ _), by omega⟩
      rw [← comb_at_a b ha, ← q5, press_self ha]
      omega
    · by_cases h2 : r b < 0
      · obtain ⟨i, e, hi⟩ := g2 b hb h2
        obtain ⟨r0, i0, l, A, B, q1, q2, q3, q4, q5, q6⟩ := ih i (by omega) (fun x hx => G x (by omega)) _ hi
        have e2 : r = press S.w b (comb S a b r0 A B) := by rw [← q5, press_press hb]
        refine ⟨r0, i0, l + 1, _, _, q1, q2, q3, Asc.b q4 ?_, e2.trans (press_comb_b a hb _ _ _), by omega⟩
        rw [← comb_at_b a hb, ← q5, press_self hb]
        omega
      · exact ⟨r, j, 0, 0, 0, hr, by omega, by omega, .zero, (comb_zero ..).symm, by omega⟩
theorem good (S : Sys) : ∀ k, Good S k := by
  intro k
  induction k using Nat.strongRecOn with
  | ind k ih =>
    intro r hr
    cases hr with
    | zero => exact ⟨fun a _ => by simp [rho], fun a _ h => by simp [rho] at h⟩
    | @up k r b hr hb hp =>
      have G : ∀ i, i ≤ k → Good S i := fun i hi => ih i (by omega)
      have key : ∀ a, a < S.n → press S.w b r a ≠ 0 ∧ (press S.w b r a < 0 → ∃ j, k + 1 = j + 1 ∧ Reach S j (press S.w a (press S.w b r))) := by
        intro a ha
        by_cases hab : a = b
        · subst hab
          rw [press_self ha]
          exact ⟨by omega, fun _ => ⟨k, rfl, by rw [press_press ha]; exact hr⟩⟩
        · obtain ⟨r0, i, l, A, B, q1, q2, q3, q4, q5, q6⟩ := down ha hb k G r hr
          have q4' := Asc.b q4 (by rw [← comb_at_b a hb, ← q5]; exact hp)
          rw [q5, press_comb_b a hb]
          obtain ⟨⟨d1, _⟩, d2, _, _⟩ := dih (S.kind a b ha hb hab) q2 q3 q4'
          rw [comb_at_a b ha]
          refine ⟨d1, fun hn => ?_⟩
          obtain ⟨l', e, h'⟩ := d2 hn
          refine ⟨i + l', by omega, ?_⟩
          rw [press_comb_a b ha]
          exact asc_reach ha hb q1 h'
      exact ⟨fun a ha => (key a ha).1, fun a ha => (key a ha).2⟩
section
variable {S : Sys} {k : Nat} {r : Row} {a b : Nat}
theorem Reach.ne (h : Reach S k r) (ha : a < S.n) : r a ≠ 0 := (good S k r h).1 a ha
theorem Reach.dn (h : Reach S k r) (ha : a < S.n) (hn : r a < 0) : ∃ j, k = j + 1 ∧ Reach S j (press S.w a r) := (good S k r h).2 a ha hn
theorem Reach.pos (h : Reach S k r) (ha : a < S.n) (hn : ¬ r a < 0) : 0 < r a := by have := h.ne ha; omega
theorem Reach.neg (h : Reach S (k + 1) r) : ∃ a, a < S.n ∧ r a < 0 ∧ Reach S k (press S.w a r) := by
  cases h with
  | @up k r b hr hb hp => exact ⟨b, hb, by rw [press_self hb]; omega, by rw [press_press hb]; exact hr⟩
theorem Reach.uniq : ∀ {k j : Nat} {r : Row}, Reach S k r → Reach S j r → k = j
  | 0, j, r, h, h' => by
    cases h
    cases j with
    | zero => rfl
    | succ j =>
      obtain ⟨a, _, hn, _⟩ := h'.neg
      simp [rho] at hn
  | k + 1, j, r, h, h' => by
    obtain ⟨a, ha, hn, h1⟩ := h.neg
    obtain ⟨i, e, h2⟩ := h'.dn ha hn
    have := Reach.uniq h1 h2
    omega
theorem Reach.zero_iff : Reach S 0 r ↔ r = rho := ⟨fun h => by cases h; rfl, fun h => h ▸ .zero⟩
/-- beyond the letters a row is as at the start -/
theorem press_out {w : Nat → Nat → Int} {a c : Nat} {r : Row} (h : w a c = 0) : press w a r c = r c := by
  show r c + w a c * r a = r c
  rw [h]
  omega
theorem Reach.out (h : Reach S k r) : ∀ c, S.n ≤ c → r c = 1 := by
  induction h with
  | zero => intro c _; rfl
  | up h ha hp ih => intro c hc; rw [press_out (S.out _ c hc)]; exact ih c hc
/-- every word's row is reached, in at most as many steps as it has letters -/
theorem reach_pr : ∀ (u : List Nat) {k : Nat} {r : Row}, (∀ a ∈ u, a < S.n) → Reach S k r → ∃ j, Reach S j (pr S.w u r) ∧ j ≤ k + u.length
  | [], k, r, _, h => ⟨k, h, by simp⟩
  | a :: u, k, r, hu, h => by
    have ha : a < S.n := hu a List.mem_cons_self
    have hu' : ∀ b ∈ u, b < S.n := fun b hb => hu b (List.mem_cons_of_mem _ hb)
    by_cases hn : r a < 0
    · obtain ⟨j, e, h1⟩ := h.dn ha hn
      obtain ⟨i, h2, h3⟩ := reach_pr u hu' h1
      exact ⟨i, h2, by simp only [List.length_cons]; omega⟩
    · obtain ⟨i, h2, h3⟩ := reach_pr u hu' (h.up ha (h.pos ha hn))
      exact ⟨i, h2, by simp only [List.length_cons]; omega⟩

/-! ### words that lead a row back -/
def IsW (S : Sys) : Row → List Nat → Prop
  | r, [] => r = rho
  | r, a :: u => a < S.n ∧ r a < 0 ∧ IsW S (press S.w a r) u
theorem IsW.len : ∀ {u : List Nat} {k : Nat} {r : Row}, IsW S r u → Reach S k r → u.length = k
  | [], k, r, h, hr => by
    have e : r = rho := h
    subst e
    exact Reach.uniq .zero hr
  | a :: u, k, r, ⟨ha, hn, h⟩, hr => by
    obtain ⟨j, e, h1⟩ := hr.dn ha hn
    have := IsW.len h h1
    simp only [List.length_cons]
    omega
theorem IsW.lt : ∀ {u : List Nat} {r : Row}, IsW S r u → ∀ a ∈ u, a < S.n
  | [], _, _, a, h => by cases h
  | b :: u, r, ⟨hb, _, h⟩, a, hm => by
    rcases List.mem_cons.mp hm with e | hm
    · subst e; exact hb
    · exact IsW.lt h a hm
theorem IsW.pr : ∀ {u : List Nat} {r : Row}, IsW S r u → pr S.w u r = rho
  | [], _, h => h
  | _ :: _, _, ⟨_, _, h⟩ => by have q := IsW.pr h; exact q
theorem Reach.isW : ∀ {k : Nat} {r : Row}, Reach S k r → ∃ u, IsW S r u
  | 0, r, h => ⟨[], Reach.zero_iff.mp h⟩
  | k + 1, r, h => by
    obtain ⟨a, ha, hn, h1⟩ := h.neg
    obtain ⟨u, hu⟩ := Reach.isW h1
    exact ⟨a :: u, ha, hn, hu⟩
theorem isW_of : ∀ {u : List Nat} {k : Nat} {r : Row}, (∀ a ∈ u, a < S.n) → Reach S k r → Bw.pr S.w u r = rho → u.length ≤ k → IsW S r u
  | [], k, r, _, _, e, _ => e
  | a :: u, k, r, hu, hr, e, hl => by
    have ha : a < S.n := hu a List.mem_cons_self
    have hu' : ∀ b ∈ u, b < S.n := fun b hb => hu b (List.mem_cons_of_mem _ hb)
    simp only [List.length_cons] at hl
    by_cases hn : r a < 0
    · obtain ⟨j, ej, h1⟩ := hr.dn ha hn
      exact ⟨ha, hn, isW_of hu' h1 e (by omega)⟩
    · -- going up, one would come to the start with too few letters
      exfalso
      have h1 := hr.up ha (hr.pos ha hn)
      have : ∀ (v : List Nat) (i : Nat) (s : Row), (∀ b ∈ v, b < S.n) → Reach S i s → Bw.pr S.w v s = rho → i ≤ v.length := by
        intro v
        induction v with
        | nil => intro i s _ hs e; have e' : s = rho := e; subst e'; exact Nat.le_of_eq (Reach.uniq hs .zero)
        | cons b v ih =>
          intro i s hv hs e
          have hb : b < S.n := hv b List.mem_cons_self
          have hv' : ∀ c ∈ v, c < S.n := fun c hc => hv c (List.mem_cons_of_mem _ hc)
          simp only [List.length_cons]
          by_cases hn : s b < 0
          · obtain ⟨j, ej, h1⟩ := hs.dn hb hn
            have := ih j _ hv' h1 e
            omega
          · have := ih _ _ hv' (hs.up hb (hs.pos hb hn)) e
            omega
      have := this u (k + 1) _ hu' h1 e
      omega
theorem pr_rev {u : List Nat} (hu : ∀ a ∈ u, a < S.n) (r : Row) : Bw.pr S.w u.reverse (Bw.pr S.w u r) = r := by
  induction u generalizing r with
  | nil => rfl
  | cons a u ih =>
    rw [List.reverse_cons, pr_append]
    show press S.w a (Bw.pr S.w u.reverse (Bw.pr S.w u (press S.w a r))) = r
    rw [ih (fun b hb => hu b (List.mem_cons_of_mem _ hb)), press_press (hu a List.mem_cons_self)]
theorem IsW.row {u : List Nat} (h : IsW S r u) : r = Bw.pr S.w u.reverse rho := by
  rw [← h.pr, pr_rev h.lt]
theorem isW_append : ∀ {u v : List Nat} {r : Row}, IsW S r (u ++ v) → IsW S (Bw.pr S.w u r) v
  | [], _, _, h => h
  | _ :: _, _, _, ⟨_, _, h⟩ => by have q := isW_append h; exact q

/-! ### two letters by turns -/
def alt (a b : Nat) : Nat → List Nat
  | 0 => []
  | l + 1 => a :: alt b a l
theorem alt_length : ∀ (a b l : Nat), (alt a b l).length = l
  | _, _, 0 => rfl
  | a, b, l + 1 => by show (alt b a l).length + 1 = _; rw [alt_length]
theorem alt_mem : ∀ {a b l x : Nat}, x ∈ alt a b l → x = a ∨ x = b
  | _, _, 0, _, h => by cases h
  | a, b, l + 1, x, h => by
    rcases List.mem_cons.mp h with e | h
    · exact .inl e
    · exact (alt_mem h).symm
/-- steps downward -/
def Dn (S : Sys) : Row → List Nat → Prop
  | _, [] => True
  | r, a :: u => a < S.n ∧ r a < 0 ∧ Dn S (press S.w a r) u
theorem Dn.isW : ∀ {u v : List Nat} {r : Row}, Dn S r u → IsW S (Bw.pr S.w u r) v → IsW S r (u ++ v)
  | [], _, _, _, h => h
  | _ :: _, _, _, ⟨h1, h2, h3⟩, h => ⟨h1, h2, Dn.isW h3 h⟩
theorem Dn.reach : ∀ {u : List Nat} {k : Nat} {r : Row}, Dn S r u → Reach S k r → ∃ j, k = j + u.length ∧ Reach S j (Bw.pr S.w u r)
  | [], k, r, _, h => ⟨k, by simp, h⟩
  | a :: u, k, r, ⟨h1, h2, h3⟩, h => by
    obtain ⟨j, e, h4⟩ := h.dn h1 h2
    obtain ⟨i, e', h5⟩ := Dn.reach h3 h4
    exact ⟨i, by simp only [List.length_cons]; omega, h5⟩
section
theorem run_a_2_0_0 {S : Sys} {a b : Nat} (ha : a < S.n) (hb : b < S.n) (hp : S.w a b = 0) (hq : S.w b a = 0) (r : Row) : Bw.pr S.w (alt a b 2) (comb S a b r 0 0) = comb S a b r (1 * r a + 0 * r b) (0 * r a + 1 * r b) := by
  simp only [alt, Bw.pr]
  rw [step_a (A' := (1 * r a + 0 * r b)) b ha hq r (by omega), step_b (B' := (0 * r a + 1 * r b)) a hb hp r (by omega)]
theorem dn_a_2_0_0 {S : Sys} {a b : Nat} (ha : a < S.n) (hb : b < S.n) (hp : S.w a b = 0) (hq : S.w b a = 0) (r : Row) (h1 : r a < 0) (h2 : r b < 0) : Dn S (comb S a b r 0 0) (alt a b 2) := by
  refine ⟨ha, by rw [comb_at_a b ha, hq]; omega, ?_⟩
  rw [step_a (A' := (1 * r a + 0 * r b)) b ha hq r (by omega)]
  refine ⟨hb, by rw [comb_at_b a hb, hp]; omega, ?_⟩
  rw [step_b (B' := (0 * r a + 1 * r b)) a hb hp r (by omega)]
  exact True.intro
theorem run_b_2_0_0 {S : Sys} {a b : Nat} (ha : a < S.n) (hb : b < S.n) (hp : S.w a b = 0) (hq : S.w b a = 0) (r : Row) : Bw.pr S.w (alt b a 2) (comb S a b r 0 0) = comb S a b r (1 * r a + 0 * r b) (0 * r a + 1 * r b) := by
  simp only [alt, Bw.pr]
  rw [step_b (B' := (0 * r a + 1 * r b)) a hb hp r (by omega), step_a (A' := (1 * r a + 0 * r b)) b ha hq r (by omega)]
theorem dn_b_2_0_0 {S : Sys} {a b : Nat} (ha : a < S.n) (hb : b < S.n) (hp : S.w a b = 0) (hq : S.w b a = 0) (r : Row) (h1 : r a < 0) (h2 : r b < 0) : Dn S (comb S a b r 0 0) (alt b a 2) := by
  refine ⟨hb, by rw [comb_at_b a hb, hp]; omega, ?_⟩
  rw [step_b (B' := (0 * r a + 1 * r b)) a hb hp r (by omega)]
  refine ⟨ha, by rw [comb_at_a b ha, hq]; omega, ?_⟩
  rw [step_a (A' := (1 * r a + 0 * r b)) b ha hq r (by omega)]
  exact True.intro
theorem run_a_3_1_1 {S : Sys} {a b : Nat} (ha : a < S.n) (hb : b < S.n) (hp : S.w a b = 1) (hq : S.w b a = 1) (r : Row) : Bw.pr S.w (alt a b 3) (comb S a b r 0 0) = comb S a b r (1 * r a + 1 * r b) (1 * r a + 1 * r b) := by
  simp only [alt, Bw.pr]
  rw [step_a (A' := (1 * r a + 0 * r b)) b ha hq r (by omega), step_b (B' := (1 * r a + 1 * r b)) a hb hp r (by omega), step_a (A' := (1 * r a + 1 * r b)) b ha hq r (by omega)]
theorem dn_a_3_1_1 {S : Sys} {a b : Nat} (ha : a < S.n) (hb : b < S.n) (hp : S.w a b = 1) (hq : S.w b a = 1) (r : Row) (h1 : r a < 0) (h2 : r b < 0) : Dn S (comb S a b r 0 0) (alt a b 3) := by
  refine ⟨ha, by rw [comb_at_a b ha, hq]; omega, ?_⟩
  rw [step_a (A' := (1 * r a + 0 * r b)) b ha hq r (by omega)]
  refine ⟨hb, by rw [comb_at_b a hb, hp]; omega, ?_⟩
  rw [step_b (B' := (1 * r a + 1 * r b)) a hb hp r (by omega)]
  refine ⟨ha, by rw [comb_at_a b ha, hq]; omega, ?_⟩
  rw [step_a (A' := (1 * r a + 1 * r b)) b ha hq r (by omega)]
  exact True.intro
theorem run_b_3_1_1 {S : Sys} {a b : Nat} (ha : a < S.n) (hb : b < S.n) (hp : S.w a b = 1) (hq : S.w b a = 1) (r : Row) : Bw.pr S.w (alt b a 3) (comb S a b r 0 0) = comb S a b r (1 * r a + 1 * r b) (1 * r a + 1 * r b) := by
  simp only [alt, Bw.pr]
  rw [step_b (B' := (0 * r a + 1 * r b)) a hb hp r (by omega), step_a (A' := (1 * r a + 1 * r b)) b ha hq r (by omega), step_b (B' := (1 * r a + 1 * r b)) a hb hp r (by omega)]
theorem dn_b_3_1_1 {S : Sys} {a b : Nat} (ha : a < S.n) (hb : b < S.n) (hp : S.w a b = 1) (hq : S.w b a = 1) (r : Row) (h1 : r a < 0) (h2 : r b < 0) : Dn S (comb S a b r 0 0) (alt b a 3) := by
  refine ⟨hb, by rw [comb_at_b a hb, hp]; omega, ?_⟩
  rw [step_b (B' := (0 * r a + 1 * r b)) a hb hp r (by omega)]
  refine ⟨ha, by rw [comb_at_a b ha, hq]; omega, ?_⟩
  rw [step_a (A' := (1 * r a + 1 * r b)) b ha hq r (by omega)]
  refine ⟨hb, by rw [comb_at_b a hb, hp]; omega, ?_⟩
  rw [step_b (B' := (1 * r a + 1 * r b)) a hb hp r (by omega)]
  exact True.intro
theorem run_a_4_1_2 {S : Sys} {a b : Nat} (ha : a < S.n) (hb : b < S.n) (hp : S.w a b = 1) (hq : S.w b a = 2) (r : Row) : Bw.pr S.w (alt a b 4) (comb S a b r 0 0) = comb S a b r (2 * r a + 2 * r b) (1 * r a + 2 * r b) := by
  simp only [alt, Bw.pr]
  rw [step_a (A' := (1 * r a + 0 * r b)) b ha hq r (by omega), step_b (B' := (1 * r a + 1 * r b)) a hb hp r (by omega), step_a (A' := (2 * r a + 2 * r b)) b ha hq r (by omega), step_b (B' := (1 * r a + 2 * r b)) a hb hp r (by omega)]
theorem dn_a_4_1_2 {S : Sys} {a b : Nat} (ha : a < S.n) (hb : b < S.n) (hp : S.w a b = 1) (hq : S.w b a = 2) (r : Row) (h1 : r a < 0) (h2 : r b < 0) : Dn S (comb S a b r 0 0) (alt a b 4) := by
  refine ⟨ha, by rw [comb_at_a b ha, hq]; omega, ?_⟩
  rw [step_a (A' := (1 * r a + 0 * r b)) b ha hq r (by omega)]
  refine ⟨hb, by rw [comb_at_b a hb, hp]; omega, ?_⟩
  rw [step_b (B' := (1 * r a + 1 * r b)) a hb hp r (by omega)]
  refine ⟨ha, by rw [comb_at_a b ha, hq]; omega, ?_⟩
  rw [step_a (A' := (2 * r a + 2 * r b)) b ha hq r (by omega)]
  refine ⟨hb, by rw [comb_at_b a hb, hp]; omega, ?_⟩
  rw [step_b (B' := (1 * r a + 2 * r b)) a hb hp r (by omega)]
  exact True.intro
theorem run_b_4_1_2 {S : Sys} {a b : Nat} (ha : a < S.n) (hb : b < S.n) (hp : S.w a b = 1) (hq : S.w b a = 2) (r : Row) : Bw.pr S.w (alt b a 4) (comb S a b r 0 0) = comb S a b r (2 * r a + 2 * r b) (1 * r a + 2 * r b) := by
  simp only [alt, Bw.pr]
  rw [step_b (B' := (0 * r a + 1 * r b)) a hb hp r (by omega), step_a (A' := (1 * r a + 2 * r b)) b ha hq r (by omega), step_b (B' := (1 * r a + 2 * r b)) a hb hp r (by omega), step_a (A' := (2 * r a + 2 * r b)) b ha hq r (by omega)]
theorem dn_b_4_1_2 {S : Sys} {a b : Nat} (ha : a < S.n) (hb : b < S.n) (hp : S.w a b = 1) (hq : S.w b a = 2) (r : Row) (h1 : r a < 0) (h2 : r b < 0) : Dn S (comb S a b r 0 0) (alt b a 4) := by
  refine ⟨hb, by rw [comb_at_b a hb, hp]; omega, ?_⟩
  rw [step_b (B' := (0 * r a + 1 * r b)) a hb hp r (by omega)]
  refine ⟨ha, by rw [comb_at_a b ha, hq]; omega, ?_⟩
  rw [step_a (A' := (1 * r a + 2 * r b)) b ha hq r (by omega)]
  refine ⟨hb, by rw [comb_at_b a hb, hp]; omega, ?_⟩
  rw [step_b (B' := (1 * r a + 2 * r b)) a hb hp r (by omega)]
  refine ⟨ha, by rw [comb_at_a b ha, hq]; omega, ?_⟩
  rw [step_a (A' := (2 * r a + 2 * r b)) b ha hq r (by omega)]
  exact True.intro
theorem run_a_4_2_1 {S : Sys} {a b : Nat} (ha : a < S.n) (hb : b < S.n) (hp : S.w a b = 2) (hq : S.w b a = 1) (r : Row) : Bw.pr S.w (alt a b 4) (comb S a b r 0 0) = comb S a b r (2 * r a + 1 * r b) (2 * r a + 2 * r b) := by
  simp only [alt, Bw.pr]
  rw [step_a (A' := (1 * r a + 0 * r b)) b ha hq r (by omega), step_b (B' := (2 * r a + 1 * r b)) a hb hp r (by omega), step_a (A' := (2 * r a + 1 * r b)) b ha hq r (by omega), step_b (B' := (2 * r a + 2 * r b)) a hb hp r (by omega)]
theorem dn_a_4_2_1 {S : Sys} {a b : Nat} (ha : a < S.n) (hb : b < S.n) (hp : S.w a b = 2) (hq : S.w b a = 1) (r : Row) (h1 : r a < 0) (h2 : r b < 0) : Dn S (comb S a b r 0 0) (alt a b 4) := by
  refine ⟨ha, by rw [comb_at_a b ha, hq]; omega, ?_⟩
  rw [step_a (A' := (1 * r a + 0 * r b)) b ha hq r (by omega)]
  refine ⟨hb, by rw [comb_at_b a hb, hp]; omega, ?_⟩
  rw [step_b (B' := (2 * r a + 1 * r b)) a hb hp r (by omega)]
  refine ⟨ha, by rw [comb_at_a b ha, hq]; omega, ?_⟩
  rw [step_a (A' := (2 * r a + 1 * r b)) b ha hq r (by omega)]
  refine ⟨hb, by rw [comb_at_b a hb, hp]; omega, ?_⟩
  rw [step_b (B' := (2 * r a + 2 * r b)) a hb hp r (by omega)]
  exact True.intro
theorem run_b_4_2_1 {S : Sys} {a b : Nat} (ha : a < S.n) (hb : b < S.n) (hp : S.w a b = 2) (hq : S.w b a = 1) (r : Row) : Bw.pr S.w (alt b a 4) (comb S a b r 0 0) = comb S a b r (2 * r a + 1 * r b) (2 * r a + 2 * r b) := by
  simp only [alt, Bw.pr]
  rw [step_b (B' := (0 * r a + 1 * r b)) a hb hp r (by omega), step_a (A' := (1 * r a + 1 * r b)) b ha hq r (by omega), step_b (B' := (2 * r a + 2 * r b)) a hb hp r (by omega), step_a (A' := (2 * r a + 1 * r b)) b ha hq r (by omega)]
theorem dn_b_4_2_1 {S : Sys} {a b : Nat} (ha : a < S.n) (hb : b < S.n) (hp : S.w a b = 2) (hq : S.w b a = 1) (r : Row) (h1 : r a < 0) (h2 : r b < 0) : Dn S (comb S a b r 0 0) (alt b a 4) := by
  refine ⟨hb, by rw [comb_at_b a hb, hp]; omega, ?_⟩
  rw [step_b (B' := (0 * r a + 1 * r b)) a hb hp r (by omega)]
  refine ⟨ha, by rw [comb_at_a b ha, hq]; omega, ?_⟩
  rw [step_a (A' := (1 * r a + 1 * r b)) b ha hq r (by omega)]
  refine ⟨hb, by rw [comb_at_b a hb, hp]; omega, ?_⟩
  rw [step_b (B' := (2 * r a + 2 * r b)) a hb hp r (by omega)]
  refine ⟨ha, by rw [comb_at_a b ha, hq]; omega, ?_⟩
  rw [step_a (A' := (2 * r a + 1 * r b)) b ha hq r (by omega)]
  exact True.intro
theorem run_a_6_1_3 {S : Sys} {a b : Nat} (ha : a < S.n) (hb : b < S.n) (hp : S.w a b = 1) (hq : S.w b a = 3) (r : Row) : Bw.pr S.w (alt a b 6) (comb S a b r 0 0) = comb S a b r (4 * r a + 6 * r b) (2 * r a + 4 * r b) := by
  simp only [alt, Bw.pr]
  rw [step_a (A' := (1 * r a + 0 * r b)) b ha hq r (by omega), step_b (B' := (1 * r a + 1 * r b)) a hb hp r (by omega), step_a (A' := (3 * r a + 3 * r b)) b ha hq r (by omega), step_b (B' := (2 * r a + 3 * r b)) a hb hp r (by omega), step_a (A' := (4 * r a + 6 * r b)) b ha hq r (by omega), step_b (B' := (2 * r a + 4 * r b)) a hb hp r (by omega)]
theorem dn_a_6_1_3 {S : Sys} {a b : Nat} (ha : a < S.n) (hb : b < S.n) (hp : S.w a b = 1) (hq : S.w b a = 3) (r : Row) (h1 : r a < 0) (h2 : r b < 0) : Dn S (comb S a b r 0 0) (alt a b 6) := by
  refine ⟨ha, by rw [comb_at_a b ha, hq]; omega, ?_⟩
  rw [step_a (A' := (1 * r a + 0 * r b)) b ha hq r (by omega)]
  refine ⟨hb, by rw [comb_at_b a hb, hp]; omega, ?_⟩
  rw [step_b (B' := (1 * r a + 1 * r b)) a hb hp r (by omega)]
  refine ⟨ha, by rw [comb_at_a b ha, hq]; omega, ?_⟩
  rw [step_a (A' := (3 * r a + 3 * r b)) b ha hq r (by omega)]
  refine ⟨hb, by rw [comb_at_b a hb, hp]; omega, ?_⟩
  rw [step_b (B' := (2 * r a + 3 * r b)) a hb hp r (by omega)]
  refine ⟨ha, by rw [comb_at_a b ha, hq]; omega, ?_⟩
  rw [step_a (A' := (4 * r a + 6 * r b)) b ha hq r (by omega)]
  refine ⟨hb, by rw [comb_at_b a hb, hp]; omega, ?_⟩
  rw [step_b (B' := (2 * r a + 4 * r b)) a hb hp r (by omega)]
  exact True.intro
theorem run_b_6_1_3 {S : Sys} {a b : Nat} (ha : a < S.n) (hb : b < S.n) (hp : S.w a b = 1) (hq : S.w b a = 3) (r : Row) : Bw.pr S.w (alt b a 6) (comb S a b r 0 0) = comb S a b r (4 * r a + 6 * r b) (2 * r a + 4 * r b) := by
  simp only [alt, Bw.pr]
  rw [step_b (B' := (0 * r a + 1 * r b)) a hb hp r (by omega), step_a (A' := (1 * r a + 3 * r b)) b ha hq r (by omega), step_b (B' := (1 * r a + 3 * r b)) a hb hp r (by omega), step_a (A' := (3 * r a + 6 * r b)) b ha hq r (by omega), step_b (B' := (2 * r a + 4 * r b)) a hb hp r (by omega), step_a (A' := (4 * r a + 6 * r b)) b ha hq r (by omega)]
theorem dn_b_6_1_3 {S : Sys} {a b : Nat} (ha : a < S.n) (hb : b < S.n) (hp : S.w a b = 1) (hq : S.w b a = 3) (r : Row) (h1 : r a < 0) (h2 : r b < 0) : Dn S (comb S a b r 0 0) (alt b a 6) := by
  refine ⟨hb, by rw [comb_at_b a hb, hp]; omega, ?_⟩
  rw [step_b (B' := (0 * r a + 1 * r b)) a hb hp r (by omega)]
  refine ⟨ha, by rw [comb_at_a b ha, hq]; omega, ?_⟩
  rw [step_a (A' := (1 * r a + 3 * r b)) b ha hq r (by omega)]
  refine ⟨hb, by rw [comb_at_b a hb, hp]; omega, ?_⟩
  rw [step_b (B' := (1 * r a + 3 * r b)) a hb hp r (by omega)]
  refine ⟨ha, by rw [comb_at_a b ha, hq]; omega, ?_⟩
  rw [step_a (A' := (3 * r a + 6 * r b)) b ha hq r (by omega)]
  refine ⟨hb, by rw [comb_at_b a hb, hp]; omega, ?_⟩
  rw [step_b (B' := (2 * r a + 4 * r b)) a hb hp r (by omega)]
  refine ⟨ha, by rw [comb_at_a b ha, hq]; omega, ?_⟩
  rw [step_a (A' := (4 * r a + 6 * r b)) b ha hq r (by omega)]
  exact True.intro
theorem run_a_6_3_1 {S : Sys} {a b : Nat} (ha : a < S.n) (hb : b < S.n) (hp : S.w a b = 3) (hq : S.w b a = 1) (r : Row) : Bw.pr S.w (alt a b 6) (comb S a b r 0 0) = comb S a b r (4 * r a + 2 * r b) (6 * r a + 4 * r b) := by
  simp only [alt, Bw.pr]
  rw [step_a (A' := (1 * r a + 0 * r b)) b ha hq r (by omega), step_b (B' := (3 * r a + 1 * r b)) a hb hp r (by omega), step_a (A' := (3 * r a + 1 * r b)) b ha hq r (by omega), step_b (B' := (6 * r a + 3 * r b)) a hb hp r (by omega), step_a (A' := (4 * r a + 2 * r b)) b ha hq r (by omega), step_b (B' := (6 * r a + 4 * r b)) a hb hp r (by omega)]
theorem dn_a_6_3_1 {S : Sys} {a b : Nat} (ha : a < S.n) (hb : b < S.n) (hp : S.w a b = 3) (hq : S.w b a = 1) (r : Row) (h1 : r a < 0) (h2 : r b < 0) : Dn S (comb S a b r 0 0) (alt a b 6) := by
  refine ⟨ha, by rw [comb_at_a b ha, hq]; omega, ?_⟩
  rw [step_a (A' := (1 * r a + 0 * r b)) b ha hq r (by omega)]
  refine ⟨hb, by rw [comb_at_b a hb, hp]; omega, ?_⟩
  rw [step_b (B' := (3 * r a + 1 * r b)) a hb hp r (by omega)]
  refine ⟨ha, by rw [comb_at_a b ha, hq]; omega, ?_⟩
  rw [step_a (A' := (3 * r a + 1 * r b)) b ha hq r (by omega)]
  refine ⟨hb, by rw [comb_at_b a hb, hp]; omega, ?_⟩
  rw [step_b (B' := (6 * r a + 3 * r b)) a hb hp r (by omega)]
  refine ⟨ha, by rw [comb_at_a b ha, hq]; omega, ?_⟩
  rw [step_a (A' := (4 * r a + 2 * r b)) b ha hq r (by omega)]
  refine ⟨hb, by rw [comb_at_b a hb, hp]; omega, ?_⟩
  rw [step_b (B' := (6 * r a + 4 * r b)) a hb hp r (by omega)]
  exact True.intro
theorem run_b_6_3_1 {S : Sys} {a b : Nat} (ha : a < S.n) (hb : b < S.n) (hp : S.w a b = 3) (hq : S.w b a = 1) (r : Row) : Bw.pr S.w (alt b a 6) (comb S a b r 0 0) = comb S a b r (4 * r a + 2 * r b) (6 * r a + 4 * r b) := by
  simp only [alt, Bw.pr]
  rw [step_b (B' := (0 * r a + 1 * r b)) a hb hp r (by omega), step_a (A' := (1 * r a + 1 * r b)) b ha hq r (by omega), step_b (B' := (3 * r a + 3 * r b)) a hb hp r (by omega), step_a (A' := (3 * r a + 2 * r b)) b ha hq r (by omega), step_b (B' := (6 * r a + 4 * r b)) a hb hp r (by omega), step_a (A' := (4 * r a + 2 * r b)) b ha hq r (by omega)]
theorem dn_b_6_3_1 {S : Sys} {a b : Nat} (ha : a < S.n) (hb : b < S.n) (hp : S.w a b = 3) (hq : S.w b a = 1) (r : Row) (h1 : r a < 0) (h2 : r b < 0) : Dn S (comb S a b r 0 0) (alt b a 6) := by
  refine ⟨hb, by rw [comb_at_b a hb, hp]; omega, ?_⟩
  rw [step_b (B' := (0 * r a + 1 * r b)) a hb hp r (by omega)]
  refine ⟨ha, by rw [comb_at_a b ha, hq]; omega, ?_⟩
  rw [step_a (A' := (1 * r a + 1 * r b)) b ha hq r (by omega)]
  refine ⟨hb, by rw [comb_at_b a hb, hp]; omega, ?_⟩
  rw [step_b (B' := (3 * r a + 3 * r b)) a hb hp r (by omega)]
  refine ⟨ha, by rw [comb_at_a b ha, hq]; omega, ?_⟩
  rw [step_a (A' := (3 * r a + 2 * r b)) b ha hq r (by omega)]
  refine ⟨hb, by rw [comb_at_b a hb, hp]; omega, ?_⟩
  rw [step_b (B' := (6 * r a + 4 * r b)) a hb hp r (by omega)]
  refine ⟨ha, by rw [comb_at_a b ha, hq]; omega, ?_⟩
  rw [step_a (A' := (4 * r a + 2 * r b)) b ha hq r (by omega)]
  exact True.intro
end
theorem braid (ha : a < S.n) (hb : b < S.n) (hab : a ≠ b) (hm : S.m a b ≠ 0) (r : Row) : Bw.pr S.w (alt a b (S.m a b)) r = Bw.pr S.w (alt b a (S.m a b)) r := by
  have hk := S.kind a b ha hb hab
  generalize S.m a b = m at *
  have ez : comb S a b r 0 0 = r := comb_zero ..
  rcases hk with ⟨e1, e2, e3⟩ | ⟨e1, e2, e3⟩ | ⟨e1, e2, e3⟩ | ⟨e1, e2, e3⟩ | ⟨e1, e2, e3⟩ | ⟨e1, e2, e3⟩ | ⟨e1, e2, e3⟩
  all_goals subst e1
  · have h1 := run_a_2_0_0 ha hb e2 e3 r
    have h2 := run_b_2_0_0 ha hb e2 e3 r
    rw [ez] at h1 h2
    exact h1.trans h2.symm
  · have h1 := run_a_3_1_1 ha hb e2 e3 r
    have h2 := run_b_3_1_1 ha hb e2 e3 r
    rw [ez] at h1 h2
    exact h1.trans h2.symm
  · have h1 := run_a_4_1_2 ha hb e2 e3 r
    have h2 := run_b_4_1_2 ha hb e2 e3 r
    rw [ez] at h1 h2
    exact h1.trans h2.symm
  · have h1 := run_a_4_2_1 ha hb e2 e3 r
    have h2 := run_b_4_2_1 ha hb e2 e3 r
    rw [ez] at h1 h2
    exact h1.trans h2.symm
  · have h1 := run_a_6_1_3 ha hb e2 e3 r
    have h2 := run_b_6_1_3 ha hb e2 e3 r
    rw [ez] at h1 h2
    exact h1.trans h2.symm
  · have h1 := run_a_6_3_1 ha hb e2 e3 r
    have h2 := run_b_6_3_1 ha hb e2 e3 r
    rw [ez] at h1 h2
    exact h1.trans h2.symm
  · exact absurd rfl hm
theorem dn_alt (ha : a < S.n) (hb : b < S.n) (hab : a ≠ b) (h1 : r a < 0) (h2 : r b < 0) : Dn S r (alt a b (S.m a b)) := by
  have hk := S.kind a b ha hb hab
  generalize S.m a b = m at *
  have ez : comb S a b r 0 0 = r := comb_zero ..
  rw [← ez]
  rcases hk with ⟨e1, e2, e3⟩ | ⟨e1, e2, e3⟩ | ⟨e1, e2, e3⟩ | ⟨e1, e2, e3⟩ | ⟨e1, e2, e3⟩ | ⟨e1, e2, e3⟩ | ⟨e1, e2, e3⟩
  all_goals subst e1
  · exact dn_a_2_0_0 ha hb e2 e3 r h1 h2
  · exact dn_a_3_1_1 ha hb e2 e3 r h1 h2
  · exact dn_a_4_1_2 ha hb e2 e3 r h1 h2
  · exact dn_a_4_2_1 ha hb e2 e3 r h1 h2
  · exact dn_a_6_1_3 ha hb e2 e3 r h1 h2
  · exact dn_a_6_3_1 ha hb e2 e3 r h1 h2
  · exact True.intro
theorem Reach.fin (h : Reach S k r) (ha : a < S.n) (hb : b < S.n) (hab : a ≠ b) (h1 : r a < 0) (h2 : r b < 0) : S.m a b ≠ 0 := by
  intro hm
  obtain ⟨r0, i, l, A, B, q1, q2, q3, q4, q5, q6⟩ := down ha hb k (fun i _ => good S i) r h
  obtain ⟨_, _, _, d⟩ := dih (S.kind a b ha hb hab) q2 q3 q4
  refine d hm ⟨?_, ?_⟩
  · rw [← comb_at_a b ha, ← q5]; exact h1
  · rw [← comb_at_b a hb, ← q5]; exact h2
/-- two last letters: both stretches lead down to one row, and on to the start -/
theorem Reach.diamond (h : Reach S k r) (ha : a < S.n) (hb : b < S.n) (hab : a ≠ b) (h1 : r a < 0) (h2 : r b < 0) :
    S.m a b ≠ 0 ∧ ∃ x, IsW S r (alt a b (S.m a b) ++ x) ∧ IsW S r (alt b a (S.m a b) ++ x) := by
  have hm := h.fin ha hb hab h1 h2
  refine ⟨hm, ?_⟩
  have d1 := dn_alt ha hb hab h1 h2
  have d2 := dn_alt hb ha (Ne.symm hab) h2 h1
  rw [← S.msymm ha hb hab] at d2
  obtain ⟨j, _, h3⟩ := d1.reach h
  obtain ⟨x, hx⟩ := h3.isW
  exact ⟨x, d1.isW hx, d2.isW (by rw [← braid ha hb hab hm]; exact hx)⟩
theorem Sys.mge (S : Sys) {a b : Nat} (ha : a < S.n) (hb : b < S.n) (hab : a ≠ b) (hm : S.m a b ≠ 0) : ∃ l, S.m a b = l + 2 ∧ l ≤ 4 := by
  have hk := S.kind a b ha hb hab
  generalize S.m a b = m at *
  rcases hk with ⟨e1, _⟩ | ⟨e1, _⟩ | ⟨e1, _⟩ | ⟨e1, _⟩ | ⟨e1, _⟩ | ⟨e1, _⟩ | ⟨e1, _⟩ <;> subst e1
  · exact ⟨0, rfl, by decide⟩
  · exact ⟨1, rfl, by decide⟩
  · exact ⟨2, rfl, by decide⟩
  · exact ⟨2, rfl, by decide⟩
  · exact ⟨4, rfl, by decide⟩
  · exact ⟨4, rfl, by decide⟩
  · exact absurd rfl hm
/-- WHAT HOLDS OF ALL SHORTEST WORDS, by the stretches (Matsumoto): a relation that bears a first letter and a stretch -/
theorem matsumoto (R : List Nat → List Nat → Prop) (refl : ∀ u, R u u) (trans : ∀ u v x, R u v → R v x → R u x) (cons : ∀ a u v, a < S.n → R u v → R (a :: u) (a :: v))
    (turn : ∀ a b x, a < S.n → b < S.n → a ≠ b → S.m a b ≠ 0 → R (alt a b (S.m a b) ++ x) (alt b a (S.m a b) ++ x)) :
    ∀ (k : Nat) (r : Row) (u v : List Nat), Reach S k r → IsW S r u → IsW S r v → R u v := by
  intro k
  induction k with
  | zero =>
    intro r u v hr hu hv
    have e1 := hu.len hr
    have e2 := hv.len hr
    rw [List.length_eq_zero_iff.mp e1, List.length_eq_zero_iff.mp e2]
    exact refl _
  | succ k ih =>
    intro r u v hr hu hv
    cases u with
    | nil => have := hu.len hr; simp at this
    | cons a u =>
      cases v with
      | nil => have := hv.len hr; simp at this
      | cons b v =>
        obtain ⟨ha, na, hu'⟩ := hu
        obtain ⟨hb, nb, hv'⟩ := hv
        have ra : Reach S k (press S.w a r) := by
          obtain ⟨j, e, h⟩ := hr.dn ha na
          obtain rfl : k = j := by omega
          exact h
        have rb : Reach S k (press S.w b r) := by
          obtain ⟨j, e, h⟩ := hr.dn hb nb
          obtain rfl : k = j := by omega
          exact h
        by_cases hab : a = b
        · subst hab
          exact cons _ _ _ ha (ih _ _ _ ra hu' hv')
        · obtain ⟨hm, x, hx, hy⟩ := hr.diamond ha hb hab na nb
          have t := turn a b x ha hb hab hm
          obtain ⟨l, hl, _⟩ := S.mge ha hb hab hm
          rw [hl] at hx hy t
          exact trans _ _ _ (cons _ _ _ ha (ih _ _ _ ra hu' hx.2.2)) (trans _ _ _ t (cons _ _ _ hb (ih _ _ _ rb hy.2.2 hv')))
/-- shortest words of one row act alike on every row -/
theorem isW_acts (hr : Reach S k r) {u v : List Nat} (hu : IsW S r u) (hv : IsW S r v) : ∀ s, Bw.pr S.w u s = Bw.pr S.w v s :=
  matsumoto (fun u v => ∀ s, Bw.pr S.w u s = Bw.pr S.w v s) (fun _ _ => rfl) (fun _ _ _ h1 h2 s => (h1 s).trans (h2 s)) (fun a _ _ _ h s => h (press S.w a s))
    (fun a b x ha hb hab hm s => by rw [pr_append, pr_append, braid ha hb hab hm]) k r u v hr hu hv
theorem acts_back : ∀ (w : List Nat), (∀ a ∈ w, a < S.n) → ∀ u, IsW S (Bw.pr S.w w.reverse rho) u → ∀ s, Bw.pr S.w u (Bw.pr S.w w.reverse s) = s
  | [], _, u, hu, s => by
    have : u.length = 0 := hu.len (show Reach S 0 (Bw.pr S.w [].reverse rho) from .zero)
    rw [List.length_eq_zero_iff.mp this]
    rfl
  | a :: w, hw, u, hu, s => by
    have ha : a < S.n := hw a List.mem_cons_self
    have hw' : ∀ b ∈ w, b < S.n := fun b hb => hw b (List.mem_cons_of_mem _ hb)
    rw [List.reverse_cons, pr_append] at hu ⊢
    have hu' : IsW S (press S.w a (Bw.pr S.w w.reverse rho)) u := hu
    show Bw.pr S.w u (press S.w a (Bw.pr S.w w.reverse s)) = s
    obtain ⟨j, hj, _⟩ := reach_pr (S := S) w.reverse (fun b hb => hw' b (List.mem_reverse.mp hb)) Reach.zero
    have ih := acts_back w hw'
    generalize Bw.pr S.w w.reverse rho = r at *
    by_cases hn : r a < 0
    · obtain ⟨i, e, hi⟩ := hj.dn ha hn
      have h1 : IsW S r (a :: u) := ⟨ha, hn, hu'⟩
      exact ih (a :: u) h1 s
    · have hp := hj.up ha (hj.pos ha hn)
      obtain ⟨u', hu2⟩ := hj.isW
      have h1 : IsW S (press S.w a r) (a :: u') := ⟨ha, by rw [press_self ha]; have := hj.pos ha hn; omega, by rw [press_press ha]; exact hu2⟩
      rw [isW_acts hp hu' h1]
      show Bw.pr S.w u' (press S.w a (press S.w a _)) = s
      rw [press_press ha]
      exact ih u' hu2 s
/-- words of one row act alike -/
theorem acts_of_row {u v : List Nat} (hu : ∀ a ∈ u, a < S.n) (hv : ∀ a ∈ v, a < S.n) (e : Bw.pr S.w u rho = Bw.pr S.w v rho) (s : Row) : Bw.pr S.w u s = Bw.pr S.w v s := by
  obtain ⟨j, hj, _⟩ := reach_pr (S := S) u hu Reach.zero
  obtain ⟨x, hx⟩ := hj.isW
  have h1 := acts_back u.reverse (fun a ha => hu a (List.mem_reverse.mp ha)) x (by rw [List.reverse_reverse]; exact hx) s
  have h2 := acts_back v.reverse (fun a ha => hv a (List.mem_reverse.mp ha)) x (by rw [List.reverse_reverse, ← e]; exact hx) s
  rw [List.reverse_reverse] at h1 h2
  have h3 := pr_rev hx.lt (Bw.pr S.w u s)
  have h4 := pr_rev hx.lt (Bw.pr S.w v s)
  rw [h1] at h3
  rw [h2] at h4
  rw [← h3, ← h4]
theorem row_rev {u v : List Nat} (hu : ∀ a ∈ u, a < S.n) (hv : ∀ a ∈ v, a < S.n) (e : Bw.pr S.w u rho = Bw.pr S.w v rho) : Bw.pr S.w u.reverse rho = Bw.pr S.w v.reverse rho := by
  have h1 := pr_rev hu (Bw.pr S.w v.reverse rho)
  have h2 := pr_rev (u := v.reverse) (fun a ha => hv a (List.mem_reverse.mp ha)) rho
  rw [List.reverse_reverse] at h2
  rw [acts_of_row hu hv e, h2] at h1
  exact h1
/-- a shortest word -/
def Red (S : Sys) (u : List Nat) : Prop := (∀ a ∈ u, a < S.n) ∧ Reach S u.length (Bw.pr S.w u rho)
theorem Red.isW {u : List Nat} (h : Red S u) : IsW S (Bw.pr S.w u rho) u.reverse :=
  isW_of (fun a ha => h.1 a (List.mem_reverse.mp ha)) h.2 (pr_rev h.1 rho) (by simp)
theorem IsW.red {u : List Nat} (h : IsW S r u) (hr : Reach S k r) : Red S u.reverse :=
  ⟨fun a ha => h.lt a (List.mem_reverse.mp ha), by rw [List.length_reverse, h.len hr, ← h.row]; exact hr⟩
/-- every word has a shortest one -/
theorem exists_red (u : List Nat) (hu : ∀ a ∈ u, a < S.n) : ∃ v, Red S v ∧ Bw.pr S.w v rho = Bw.pr S.w u rho ∧ v.length ≤ u.length := by
  obtain ⟨j, hj, hl⟩ := reach_pr (S := S) u hu Reach.zero
  obtain ⟨x, hx⟩ := hj.isW
  refine ⟨x.reverse, hx.red hj, hx.row.symm, ?_⟩
  rw [List.length_reverse, hx.len hj]
  omega
theorem Red.rev {u : List Nat} (h : Red S u) : Red S u.reverse := by
  have hr : ∀ a ∈ u.reverse, a < S.n := fun a ha => h.1 a (List.mem_reverse.mp ha)
  obtain ⟨j, hj, hl⟩ := reach_pr (S := S) u.reverse hr Reach.zero
  refine ⟨hr, ?_⟩
  obtain ⟨v, hv, e, hvl⟩ := exists_red u.reverse hr
  have e2 := row_rev hv.1 hr e
  rw [List.reverse_reverse] at e2
  obtain ⟨i, hi, hil⟩ := reach_pr (S := S) v.reverse (fun a ha => hv.1 a (List.mem_reverse.mp ha)) Reach.zero
  rw [e2] at hi
  have e3 := Reach.uniq hi h.2
  have e4 : v.length = u.length := by
    have z : i ≤ 0 + v.reverse.length := hil
    rw [List.length_reverse] at z hvl
    omega
  rw [List.length_reverse, ← e4, ← e]
  exact hv.2
theorem IsW.red' {u : List Nat} (h : IsW S r u) (hr : Reach S k r) : Red S u := by
  have := (h.red hr).rev
  rwa [List.reverse_reverse] at this
end
end Bw
-- Bw2
set_option autoImplicit true
set_option maxRecDepth 512
set_option Elab.async false
set_option linter.all false
/-! Bw2: the negative letters; the least word; all words in order. -/
namespace Bw
/-- the letters that are negative -/
def bl (n : Nat) (r : Row) : List Nat := (List.range n).filter fun i => decide (r i < 0)
theorem mem_bl {n i : Nat} {r : Row} : i ∈ bl n r ↔ i < n ∧ r i < 0 := by
  unfold bl
  rw [List.mem_filter, List.mem_range, decide_eq_true_iff]
theorem bl_sorted (n : Nat) (r : Row) : (bl n r).Pairwise (· < ·) := List.Pairwise.filter _ List.pairwise_lt_range
theorem bl_nil {S : Sys} {k : Nat} {r : Row} (h : Reach S k r) : bl S.n r = [] ↔ k = 0 := by
  constructor
  · intro e
    cases k with
    | zero => rfl
    | succ k =>
      obtain ⟨a, ha, hn, _⟩ := h.neg
      have : a ∈ bl S.n r := mem_bl.mpr ⟨ha, hn⟩
      rw [e] at this
      cases this
  · intro e
    subst e
    have er := Reach.zero_iff.mp h
    subst er
    cases q : bl S.n rho with
    | nil => rfl
    | cons a l =>
      have : a ∈ bl S.n rho := by rw [q]; exact List.mem_cons_self
      have := (mem_bl.mp this).2
      simp [rho] at this
/-- the least word of a row: always the first letter -/
def lw (S : Sys) : Nat → Row → List Nat
  | 0, _ => []
  | k + 1, r => match bl S.n r with
    | [] => []
    | a :: _ => a :: lw S k (press S.w a r)
theorem lw_step {S : Sys} {k : Nat} {r : Row} (h : Reach S (k + 1) r) : ∃ a l, bl S.n r = a :: l ∧ a < S.n ∧ r a < 0 ∧ Reach S k (press S.w a r) ∧ lw S (k + 1) r = a :: lw S k (press S.w a r) := by
  cases q : bl S.n r with
  | nil => exact absurd ((bl_nil h).mp q) (Nat.succ_ne_zero k)
  | cons a l =>
    have hm : a ∈ bl S.n r := by rw [q]; exact List.mem_cons_self
    obtain ⟨ha, hn⟩ := mem_bl.mp hm
    obtain ⟨j, e, hr⟩ := h.dn ha hn
    have ej : j = k := by omega
    subst ej
    refine ⟨a, l, rfl, ha, hn, hr, ?_⟩
    show (match bl S.n r with | [] => [] | a :: _ => a :: lw S j (press S.w a r)) = _
    rw [q]
theorem lw_isW {S : Sys} : ∀ {k : Nat} {r : Row}, Reach S k r → IsW S r (lw S k r)
  | 0, r, h => Reach.zero_iff.mp h
  | k + 1, r, h => by
    obtain ⟨a, l, _, ha, hn, hr, e⟩ := lw_step h
    rw [e]
    exact ⟨ha, hn, lw_isW hr⟩
theorem lw_len {S : Sys} {k : Nat} {r : Row} (h : Reach S k r) : (lw S k r).length = k := (lw_isW h).len h
/-- after i letters of the least word -/
theorem lw_at {S : Sys} : ∀ {k : Nat} {r : Row}, Reach S k r → ∀ i, i ≤ k → Reach S (k - i) (pr S.w ((lw S k r).take i) r) ∧ (i < k → ∃ a l, bl S.n (pr S.w ((lw S k r).take i) r) = a :: l ∧ (lw S k r)[i]? = some a ∧ a < S.n)
  | 0, r, h, i, hi => by
    have : i = 0 := by omega
    subst this
    exact ⟨h, fun z => absurd z (Nat.lt_irrefl 0)⟩
  | k + 1, r, h, 0, _ => by
    obtain ⟨a, l, eb, ha, hn, hr, e⟩ := lw_step h
    exact ⟨h, fun _ => ⟨a, l, eb, by rw [e]; rfl, ha⟩⟩
  | k + 1, r, h, i + 1, hi => by
    obtain ⟨a, l, eb, ha, hn, hr, e⟩ := lw_step h
    obtain ⟨h1, h2⟩ := lw_at hr i (by omega)
    rw [e]
    refine ⟨?_, fun z => ?_⟩
    · rw [show k + 1 - (i + 1) = k - i by omega]
      exact h1
    · exact h2 (by omega)
/-- all words of a row, in order -/
def wl (S : Sys) : Nat → Row → List (List Nat)
  | 0, _ => [[]]
  | k + 1, r => (bl S.n r).flatMap fun a => (wl S k (press S.w a r)).map (a :: ·)
theorem mem_wl {S : Sys} : ∀ {k : Nat} {r : Row} {u : List Nat}, Reach S k r → (u ∈ wl S k r ↔ IsW S r u)
  | 0, r, u, h => by
    have er := Reach.zero_iff.mp h
    show u ∈ [[]] ↔ _
    rw [List.mem_singleton]
    constructor
    · intro e
      subst e
      exact er
    · intro e
      exact List.length_eq_zero_iff.mp (e.len h)
  | k + 1, r, u, h => by
    show u ∈ (bl S.n r).flatMap _ ↔ _
    rw [List.mem_flatMap]
    constructor
    · rintro ⟨a, ha, hu⟩
      obtain ⟨v, hv, rfl⟩ := List.mem_map.mp hu
      obtain ⟨h1, h2⟩ := mem_bl.mp ha
      obtain ⟨j, e, hr⟩ := h.dn h1 h2
      have ej : j = k := by omega
      subst ej
      exact ⟨h1, h2, (mem_wl hr).mp hv⟩
    · intro hu
      cases u with
      | nil =>
        have := hu.len h
        cases this
      | cons a v =>
        obtain ⟨h1, h2, h3⟩ := hu
        obtain ⟨j, e, hr⟩ := h.dn h1 h2
        have ej : j = k := by omega
        subst ej
        exact ⟨a, mem_bl.mpr ⟨h1, h2⟩, List.mem_map.mpr ⟨v, (mem_wl hr).mpr h3, rfl⟩⟩
end Bw
-- LayA
set_option autoImplicit true
set_option maxRecDepth 512
set_option Elab.async false
set_option linter.all false
set_option maxRecDepth 100000
set_option maxHeartbeats 4000000
/-! LayA: rules of my own: enumerate over a tuple, a tuple repeated and turned round, len of an own instance with slots. -/
namespace Bw
open PySem PySem.Spec PyProof.Rows L2

/-! ### enumerate(tuple) -/
theorem enum_new1 {v : Value} {o : Obj} {H : Heap → Prop} (B : Begins v o H) :
    Meets (Builtin.«enumerate.__new__» ⟨[.type "enumerate", v], []⟩) (fun _ R s => H s.heap ∧
      R (.ok (.ret (.ref (s.heap.push o).objs.size))) { s with heap := (s.heap.push o).push { cls := .type "enumerate", data := .fields #[.none, .bool false, .ref s.heap.objs.size, rawInt 0, .none, .none] } }) :=
  .of_wp fun prog w A R s h => by
    obtain ⟨hp, g, d, tk, os⟩ := s
    obtain ⟨hv, h⟩ := h
    have hsub := sub_enumerate
    have it : ∀ {A' : Around} {E' : Value → Shared → Prop} {Q' : Value → Shared → Prop}, Q' (.ref hp.objs.size) ⟨hp.push o, g, d, tk, os⟩ → wpAny (model prog w) A' (pyIter v) Q' E' ⟨hp, g, d, tk, os⟩ :=
      fun z => B.iter prog w _ _ ⟨hp, g, d, tk, os⟩ _ hv z
    wp_walk using it
    refine wpAny_stack_any fun st => wpAny_pure ?_
    split
    · rename_i c _ _ _ _ _
      cases (c == Value.type "enumerate") <;> (wp_walk using it; exact ⟨_, rfl, h⟩)
    · wp_walk using it
      exact ⟨_, rfl, h⟩
theorem enum_call1 {prog : Program} {w : World} {A : Around} {E : Value → Shared → Prop} {s : Shared} {v : Value} {o : Obj} {H : Heap → Prop} {Q : Value → Shared → Prop} (B : Begins v o H) (hv : H s.heap)
    (h : ∀ h', IsEnum h' (s.heap.objs.size + 1) s.heap.objs.size 0 .none → h'.get? s.heap.objs.size = some o → (∀ b ob, s.heap.get? b = some ob → h'.get? b = some ob) → Q (.ref (s.heap.objs.size + 1)) { s with heap := h' }) :
    wpAny (model prog w) A (call (.type "enumerate") [v]) Q E s := by
  refine callType_new F.called_enumerate (by decide) (F.typeCall_enumerate_1 _) (F.newCall_enumerate_1 _) (fun obj => F.args_object_init_2 obj _) F.entry_enumerate_new (enum_new1 B) ⟨hv, ?_⟩
  have sz : (s.heap.push o).objs.size = s.heap.objs.size + 1 := Heap.size_push ..
  show _ ∧ _
  rw [sz]
  have he : IsEnum ((s.heap.push o).push { cls := .type "enumerate", data := .fields #[.none, .bool false, .ref s.heap.objs.size, rawInt 0, .none, .none] }) (s.heap.objs.size + 1) s.heap.objs.size 0 .none := by
    have q := Heap.get?_push_size (s.heap.push o) (o := { cls := .type "enumerate", data := .fields #[.none, .bool false, .ref s.heap.objs.size, rawInt 0, .none, .none] }) rfl
    rwa [sz] at q
  exact ⟨⟨_, he, rfl⟩, h _ he (Heap.get?_push_of_some _ (Heap.get?_push_size _ B.free)) fun b ob z => Heap.get?_push_of_some _ (Heap.get?_push_of_some _ z)⟩
/-- the tuple at a, each item in a new pair -/
def Itet (K : PySem.W.Frag) (a : Addr) (xs : List V) : It :=
  ⟨fun i H => SqT K H a xs ∧ i < xs.length, fun i H v H' => ∃ T x, v = .ref T ∧ H T = none ∧ H' = upd H T (.tup [.int (i : Nat), x]) ∧ xs[i]? = some x, fun i H => SqT K H a xs ∧ xs.length = i⟩
theorem turn_enumT {P : Program} {w : World} {K : PySem.W.Frag} {elts : List Expr} {kk : Nat} {tpos : Pos} (a e it : Addr) (xs : List V) (its : List Value) (rv : Vals xs its) :
    Turn P w K (.Tuple elts kk tpos) (Itet K a xs) [e, it] e (fun i h => (∃ old, IsEnum h e it ((i : Nat) : Int) old) ∧ h.IsTupleIter it a i ∧ e ≠ it ∧ a ≠ it ∧ a ≠ e) where
  mem := List.mem_cons_self
  obj := fun i h st b hb => by
    obtain ⟨⟨old, he⟩, ⟨o, ho, hc, hd⟩, _⟩ := st
    rcases List.mem_cons.mp hb with z | z
    · rw [z]; exact ⟨_, he, fun v q => nomatch q⟩
    · rw [List.mem_singleton.mp z]; exact ⟨o, ho, fun v q => by rw [hd] at q; cases q⟩
  keep := fun i h h' st k => let ⟨⟨old, he⟩, hi, r⟩ := st; ⟨⟨old, k e (by simp) _ he⟩, hi.at fun o q => k it (by simp) o q, r⟩
  item := by
    intro X hP hw hK hc i pins s σ H E I hf st hg
    subst hP hw hK
    obtain ⟨⟨old, he⟩, hit, hne, ha1, ha2⟩ := st
    obtain ⟨hq, hi⟩ := hg
    obtain ⟨its', rv', p, hz⟩ := I.tuple hq
    obtain ⟨x, hx⟩ : ∃ x, xs[i]? = some x := ⟨xs[i], List.getElem?_eq_getElem hi⟩
    obtain ⟨u, hu, ru⟩ := rv'.get hx
    have hel : e < s.heap.objs.size := Heap.lt_size he
    have hil : it < s.heap.objs.size := by obtain ⟨_, q, _⟩ := hit; exact Heap.lt_size q
    have hlen : i < its'.toArray.size := by rw [List.size_toArray, ← rv'.length]; exact hi
    have ei : e ∉ [it, a] := fun z => by
      rcases List.mem_cons.mp z with z | z
      · exact hne z
      · exact ha2 (List.mem_singleton.mp z).symm
    refine wpAny_pyNext_enum_itemD (Draws.tuple (A := X.A.in1) (I.ok.hd hc) it a ha1 its'.toArray) he ⟨hit, p⟩ hlen hne ei fun y h' tk hy ho hs' hT hsz hk => ?_
    have ey : y = u := by
      have h1 : its'.toArray[i]? = some u := by simpa using hu
      rw [h1] at hy
      exact (Option.some.inj hy).symm
    subst ey
    refine ⟨_, rfl, wpAny_letOwnedTupleGo_enum (s := { s with heap := h', toks := tk + 1 }) ho fun h'' he' sb => ?_⟩
    have hT2 : h''.get? s.heap.objs.size = some { cls := .type "tuple", data := .seq #[.int i tk, y] } := (sb.2 _ (Nat.ne_of_gt hel)).trans hT
    have new : ObjOk X.prog X.w (upd H s.heap.objs.size (.tup [.int (i : Nat), x])) h'' s.heap.objs.size (.tup [.int (i : Nat), x]) :=
      ⟨by show 2 ≤ sizeLine; decide, [.int i tk, y], .cons ⟨_, rfl⟩ (.cons ru .nil), ⟨_, hT2, rfl, _, rfl⟩⟩
    have I1 : Inv X pins σ (upd H s.heap.objs.size (.tup [.int (i : Nat), x])) { s with heap := h'', toks := tk + 1 } :=
      I.turnedNew (ch := [e, it]) (fun b ob hb q => (sb.2 b (fun z => hb (by simp [z]))).trans (hk b ob (fun z => hb (by simp [z])) (fun z => hb (by simp [z])) q)) hf (Nat.le_refl _) new
    have fresh := I.hok.fresh (Nat.le_refl s.heap.objs.size)
    refine ⟨.ref s.heap.objs.size, _, I1, rfl, ⟨_, x, rfl, fresh, rfl, hx⟩, ⟨⟨y, ?_⟩, hs'.1.at fun o q => (sb.2 it (Ne.symm hne)).trans q, hne, ha1, ha2⟩, fun b hb => ?_⟩
    · have e1 : ((i + 1 : Nat) : Int) = (i : Int) + 1 := by omega
      rw [e1]; exact he'
    · have hb' : b < s.heap.objs.size := by
        rcases List.mem_cons.mp hb with z | z
        · rw [z]; exact hel
        · rw [List.mem_singleton.mp z]; exact hil
      rw [upd_ne (Nat.ne_of_lt hb')]
      exact (hf b hb).1
  done := by
    intro X hP hw hK hc i pins s σ H E I hf st hg
    subst hP hw hK
    obtain ⟨⟨old, he⟩, hit, hne, ha1, ha2⟩ := st
    obtain ⟨hq, hx⟩ := hg
    obtain ⟨its', rv', p, hz⟩ := I.tuple hq
    obtain ⟨f0, f1, f2, f3, f4, f5⟩ := hf it (by simp)
    have hl : i = its'.toArray.size := by rw [List.size_toArray, ← rv'.length]; exact hx.symm
    subst hl
    exact wpAny_pyNext_enum_endD (Draws.tuple (A := X.A.in1) (I.ok.hd hc) it a ha1 its'.toArray) he ⟨hit, p⟩ fun h' eb => ⟨rfl, I.turned (t' := s.toks) (fun b o hb q => eb b o hb q) f0 f1 f3 f4 f5⟩
  self := fun A i s Q E st h => let ⟨⟨_, he⟩, _⟩ := st; wpAny_pyIter_enum he h
def iEnumT (K : PySem.W.Frag) (ta : TA) : TI := fun σ H R => ta σ H fun vs H1 => ∃ a xs, vs = [.ref a] ∧ SqT K H1 a xs ∧ R (Itet K a xs) H1
theorem pi_enumT {X : Cx} {e : Expr} {ta : TA} {p pos tpos : Pos} {elts : List Expr} {kk : Nat} (hg : Gl X "enumerate") (hm : X.mg "enumerate" = none) (ha : PA X [e] ta) (hs : starEach [e] X.env = [(false, eval e X.env)] := by rfl) :
    PI X (.Tuple elts kk tpos) (.Call (.Name "enumerate" p) [e] [] pos) (iEnumT X.K ta) := by
  refine ⟨fun pins s σ H R I h => ?_⟩
  refine Call_ (ld_blt I hg hm boot_enumerate (PyProof.Rows.callWith_type1 (thn (ha.run pos pins s σ H _ I h) fun us s1 ⟨vs, H1, I1, r1, q1⟩ => ?_) hs rfl))
  obtain ⟨a, xs, ex, hq, q⟩ := q1
  subst ex
  cases r1 with
  | cons r rr =>
    cases rr
    cases r
    obtain ⟨its, rv, p', hz⟩ := I1.tuple hq
    have hal : a < s1.heap.objs.size := p'.lt
    refine enum_call1 (begins_tuple a its.toArray) p' fun h' he hit hk => wpAny_pyIter_enum he ?_
    have I2 : Inv X pins σ H1 { s1 with heap := h' } := I1.kept (t' := s1.toks) hk
    refine ⟨s1.heap.objs.size + 1, [s1.heap.objs.size + 1, s1.heap.objs.size], _, _, H1, rfl, I2, turn_enumT a (s1.heap.objs.size + 1) s1.heap.objs.size xs its rv,
      ⟨⟨.none, he⟩, ⟨_, hit, rfl, rfl⟩, Nat.succ_ne_self _, Nat.ne_of_lt hal, Nat.ne_of_lt (Nat.lt_succ_of_lt hal)⟩, fun b hb => ?_, q⟩
    have hle : s1.heap.objs.size ≤ b := by
      rcases List.mem_cons.mp hb with z | z
      · rw [z]; exact Nat.le_add_right _ _
      · rw [List.mem_singleton.mp z]; exact Nat.le_refl _
    exact I1.fpOk hle (I1.hok.fresh hle)
theorem walk_enumT {K : PySem.W.Frag} {a : Addr} {xs : List V} : Walk (Itet K a xs) xs.length (fun H => SqT K H a xs) (YPair (fun i => some (.int (i : Nat))) (fun i => xs[i]?)) :=
  ⟨fun i _ hi q => ⟨q, hi⟩, fun _ q => ⟨q, rfl⟩, fun i H v H' _ q ⟨T, x, h1, h2, h3, h4⟩ => ⟨T, .int (i : Nat), x, h1, h2, h3, rfl, h4⟩⟩
end Bw
-- LayB
set_option autoImplicit true
set_option maxRecDepth 512
set_option Elab.async false
set_option linter.all false
set_option maxRecDepth 100000
set_option maxHeartbeats 4000000
/-! LayB: a tuple repeated once, turned round; len of an own instance with slots; a written dict with int keys. -/
namespace Bw
open PySem PySem.Spec PyProof.Rows L2

/-! ### t * 1 is t -/
theorem tuple_mul1 (l : Addr) (items : Array Value) (n : Nat) (dd : Option Addr) (sl : Array (Option Value)) (u : Tok) :
    Meets (Builtin.«tuple.__mul__» ⟨[.ref l, .int 1 u], []⟩) (fun _ R s => s.heap.get? l = some { cls := .type "tuple", dict := dd, data := .seq items n, slots := sl } ∧ R (.ok (.ret (Value.ref l))) s) :=
  .of_wp fun prog w A R s h => by
    obtain ⟨hp, g, d, tk, os⟩ := s
    obtain ⟨hl, h⟩ := h
    have f1 := AutoSeq1.idx_int
    have c1 : (items.isEmpty || (1 : Int) == 1) = true := by simp
    wp_walk using AutoSeq1.wpAny_loadPart' hl
    repeat (first
      | (refine wpAny_ite_true (decide_eq_true c1) ?_; wp_walk using AutoSeq1.wpAny_loadPart' hl)
      | (rw [c1]; wp_walk using AutoSeq1.wpAny_loadPart' hl))
    exact ⟨_, rfl, h⟩
def rRep1 (K : PySem.W.Frag) : R2 := fun x y H Q => ∃ l xs, x = .ref l ∧ y = .int 1 ∧ SqT K H l xs ∧ Q (.ref l) H
theorem op_rep1 {X : Cx} : OpR X (binaryOp .Mult) (rRep1 X.K) := by
  intro pins s σ H x y v u Q I rx ry h
  obtain ⟨l, xs, rfl, rfl, hT, q⟩ := h
  cases rx
  obtain ⟨t, rfl⟩ := ry
  obtain ⟨its, r, ⟨⟨cls, dd, data, sl⟩, ho, hc, n, hd⟩, hs⟩ := I.tuple hT
  simp only at hc hd
  subst hc hd
  exact wpAny_binaryOp_repeat_ref (T := "tuple") (U := "int") (by decide) ⟨_, ho, rfl⟩ (fun s' => typeIs_int s' 1 t) noFill_tuple_mul F.fills_int_mul F.slot_int_rmul repeat_tuple F.slot_int_index.lookup
    (call_meets F.slot_int_rmul (typeIs_int s 1 t) F.entry_int_rmul (F.args_int_rmul_2 _ _) (int_rmul_tuple 1 t l its.toArray n dd sl)
      ⟨ho, rfl, ⟨_, ho, rfl⟩, call_meets F.slot_tuple_mul ⟨_, ho, rfl⟩ F.entry_tuple_mul (F.args_tuple_mul_2 _ _) (tuple_mul1 l its.toArray n dd sl t) ⟨ho, ⟨.ref l, H, I, rfl, q⟩⟩⟩)
/-- (x,) * n, n from 1 to 1000: a tuple of n times x -/
def rRepN (K : PySem.W.Frag) : R2 := fun x y H Q => ∃ (l : Addr) (k : Nat) (z : V), x = .ref l ∧ y = .int (k : Nat) ∧ H l = some (.tup [z]) ∧ 1 ≤ k ∧ k ≤ 1000 ∧ ∀ p H', Same H H' → H' p = some (.tup (List.replicate k z)) → Q (.ref p) H'
theorem op_repN {X : Cx} : OpR X (binaryOp .Mult) (rRepN X.K) := by
  intro pins s σ H x y v u Q I rx ry h
  obtain ⟨l, k, z, rfl, rfl, hl, h1, h2, q⟩ := h
  by_cases e : k = 1
  · subst e
    exact op_rep1 pins s σ H _ _ v u Q I rx ry ⟨l, [z], rfl, rfl, SqT.of hl, q l H (Same.refl H) hl⟩
  · refine op_repT pins s σ H _ _ v u Q I rx ry ⟨l, _, [z], rfl, rfl, SqT.of hl, List.cons_ne_nil _ _, by omega, by omega, (by show 1 ≤ 1000; decide), fun p hp => ?_⟩
    refine q p _ (fun b o hb => by rw [upd_ne (ne_of_none hb hp)]; exact hb) ?_
    rw [upd_same, Int.toNat_natCast]
    have : ∀ m : Nat, (List.replicate m [z]).flatten = List.replicate m z := fun m => by
      induction m with
      | zero => rfl
      | succ m ih => rw [List.replicate_succ, List.flatten_cons, ih, List.replicate_succ]; rfl
    rw [this]

/-! ### t[::-1] -/
section
variable {prog : Program} {w : World} {A : Around} {E : Value → Shared → Prop} {s : Shared}
theorem adjust_rev (n : Nat) : Builtin.Slice.sliceAdjust none none (-1) (n : Int) = ((n : Int) - 1, -1) := by
  unfold Builtin.Slice.sliceAdjust
  simp
theorem places_rev (n : Nat) : Builtin.Slice.slicePlaces ((n : Int) - 1) (-1) (-1) = n := by
  unfold Builtin.Slice.slicePlaces
  have h1 : ¬ ((-1 : Int) > 0) := by decide
  simp only [h1, if_false]
  split
  · have e : ((n : Int) - 1 - -1 - 1) / (- -1) = (n : Int) - 1 := by
      rw [show (- -1 : Int) = 1 by decide, Int.ediv_one]
      omega
    rw [e]
    omega
  · omega
theorem applied_rev {sl : Addr} {n : Nat} {t : Tok} {Q : Int × Int × Nat → Shared → Prop} (hs : s.heap.IsSliceOf sl .none .none (.int (-1) t)) (h : Q ((n : Int) - 1, -1, n) s) :
    wpAny (model prog w) A (Builtin.Slice.sliceApplied (.ref sl) (pure (n : Int))) Q E s := by
  obtain ⟨osl, ho, _, hd⟩ := id hs
  unfold Builtin.Slice.sliceApplied Builtin.Slice.sliceFields
  refine wpAny_bind (wpAny_bind (wpAny_field ho hd (x := .none) rfl (wpAny_bind (wpAny_field ho hd (x := .none) rfl (wpAny_bind (wpAny_field ho hd (x := .int (-1) t) rfl (wpAny_pure ?_)))))))
  refine wpAny_bind (slicePart_int ?_)
  show wpAny _ _ (if ((-1 : Int) == 0) = true then _ else _) _ _ s
  rw [if_neg (by decide)]
  refine wpAny_bind (slicePart_none (wpAny_bind (slicePart_none (wpAny_bind (wpAny_pure ?_)))))
  show wpAny _ _ (match Builtin.Slice.sliceAdjust none none (-1) (n : Int) with | (lo, hi) => pure (lo, (-1 : Int), Builtin.Slice.slicePlaces lo hi (-1))) _ _ s
  rw [adjust_rev n]
  show wpAny _ _ (pure ((n : Int) - 1, (-1 : Int), Builtin.Slice.slicePlaces ((n : Int) - 1) (-1) (-1))) _ _ s
  rw [places_rev]
  exact wpAny_pure h
theorem fm_congr {α β : Type} {f g : α → Option β} : ∀ {l : List α}, (∀ x ∈ l, f x = g x) → l.filterMap f = l.filterMap g
  | [], _ => rfl
  | a :: l, h => by
    rw [List.filterMap_cons, List.filterMap_cons, h a List.mem_cons_self, fm_congr fun x hx => h x (List.mem_cons_of_mem _ hx)]
theorem pick_rev (xs : Array Value) : ((List.range xs.size).filterMap fun (m : Nat) => xs[((xs.size : Int) - 1 + (m : Int) * (-1)).toNat]?).toArray = xs.toList.reverse.toArray := by
  have e : ∀ m ∈ List.range xs.size, xs[((xs.size : Int) - 1 + (m : Int) * (-1)).toNat]? = ((fun k => xs[k]?) ∘ fun k => xs.size - 1 - k) m := fun m hm => by
    have := List.mem_range.mp hm
    show _ = xs[xs.size - 1 - m]?
    congr 1
    omega
  rw [fm_congr e, ← List.filterMap_map, PySem.W.krv_range, List.filterMap_reverse, PySem.W.krv_all]
theorem getItem_tuple_rev {t sl : Addr} {items : Array Value} {k : Tok} {Q : Value → Shared → Prop} (ht : IsTup s.heap t items) (hs : s.heap.IsSliceOf sl .none .none (.int (-1) k))
    (h : Q (.ref s.heap.objs.size) { s with heap := s.heap.push { cls := .type "tuple", data := .seq items.toList.reverse.toArray } }) (hz : items.size ≤ sizeLine) : wpAny (model prog w) A (getItem (.ref t) (.ref sl)) Q E s := by
  have fits : sizeOk (.seq items.toList.reverse.toArray) := by
    show items.toList.reverse.toArray.size ≤ sizeLine
    rw [List.size_toArray, List.length_reverse, Array.length_toList]
    exact hz
  obtain ⟨osl, hosl, hcsl, hdsl⟩ := id hs
  unfold getItem
  try with_reducible refine wpAny_holding ?_
  first | refine wpAny_bind (wpAny_pure ?_) | skip
  refine wpAny_bind (wpAny_sequenceKey ht.typeIs (by decide) ?_)
  refine wpAny_bind (wpAny_callSpecial?_slot (name := Str.ofString "__getitem__") ht.typeIs PyProof.Rows.slot_tuple_getitem (wpAny_call_entry PyProof.Rows.slot_tuple_getitem ht.typeIs entry_tuple_getitem ?_ (args_tuple_getitem _ _)))
  show wpAny _ _ (Builtin.Tuple.tupleItemsOf (.ref t) >>= _) _ _ s
  refine wpAny_bind (tupleItemsOf_ ht (wpAny_bind (wpAny_typeOf (T := "slice") ⟨osl, hosl, hcsl⟩ ?_)))
  rw [if_pos (by decide)]
  refine wpAny_bind (applied_rev (n := items.size) hs ?_)
  have no : ¬ ((((items.size : Int) - 1) == 0 && (-1 : Int) == 1 && items.size == items.size) = true) := by simp
  show wpAny _ _ (if (((items.size : Int) - 1) == 0 && (-1 : Int) == 1 && items.size == items.size) = true then _ else _) _ _ s
  rw [if_neg no, pick_rev]
  first
    | exact wpAny_bind (m := Builtin.Tuple.tupleExact _) (wpAny_newObj_type (wpAny_pure ⟨_, rfl, wpAny_pure h⟩) fits)
    | exact wpAny_bind (m := Builtin.Tuple.tupleExact _) (wpAny_newObj_type (wpAny_bind (wpAny_pure (wpAny_pure ⟨_, rfl, wpAny_pure h⟩))) fits)
    | exact wpAny_bind (wpAny_bind (m := Builtin.Tuple.tupleExact _) (wpAny_newObj_type (wpAny_pure (wpAny_pure ⟨_, rfl, wpAny_pure h⟩)) fits))
    | exact wpAny_bind (wpAny_bind (m := Builtin.Tuple.tupleExact _) (wpAny_newObj_type (wpAny_pure ⟨_, rfl, wpAny_pure h⟩) fits))
end
def tRevT (K : PySem.W.Frag) (te : TE) : TE := fun σ H Q => te σ H fun x H1 => ∃ a xs, x = .ref a ∧ SqT K H1 a xs ∧ ∀ p, H1 p = none → Q (.ref p) (upd H1 p (.tup xs.reverse))
theorem pe_revT {X : Cx} {e : Expr} {te : TE} {k : Nat} {p1 p2 p3 pos : Pos} (he : PE X e te) : PE X (.Subscript e (.Slice none none (some (.UnaryOp .USub (.Constant (.int 1) k p1) p2)) p3) pos) (tRevT X.K te) := by
  refine ⟨fun pins s σ H Q I h => ?_⟩
  refine Subscript_ (thn (he.run pins s σ H _ I h) fun v s1 ⟨x, H1, I1, r1, a, xs, ex, hx, q⟩ => ?_)
  subst ex
  cases r1
  have step : PO X (some (.UnaryOp .USub (.Constant (.int 1) k p1) p2)) (tPart (tUn (rU fun i => .int (-i)) (tC (.int 1)))) := po_some (pe_un un_neg pe_int)
  refine wpAny_Slice (thn (po_none.run pins s1 σ H1 (fun o H2 => o = none ∧ H2 = H1) I1 ⟨rfl, rfl⟩) fun vl s2 ⟨l, H2, I2, pl, el, e2⟩ => ?_)
  subst el e2
  refine thn (po_none.run pins s2 σ H2 (fun o H3 => o = none ∧ H3 = H2) I2 ⟨rfl, rfl⟩) fun vu s3 ⟨u, H3, I3, pu, eu, e3⟩ => ?_
  subst eu e3
  refine thn (step.run pins s3 σ H3 (fun o H4 => o = some (-1) ∧ H4 = H3) I3 ⟨1, rfl, -1, rfl, rfl, rfl⟩) fun vs s4 ⟨o, H4, I4, ps, eo, e4⟩ => ?_
  subst eo e4
  have I5 : Inv X pins σ H4 { s4 with heap := s4.heap.push { cls := .type "slice", data := .fields #[vl, vu, vs] } } := I4.kept (t' := s4.toks) fun b ob z => Heap.get?_push_of_some _ z
  obtain ⟨its, r, ht, hz⟩ := I5.tuple hx
  have hlen := r.length
  cases pl
  cases pu
  cases ps
  refine tail_any (ops := [.ref a, .ref s4.heap.objs.size]) ht.typeIs PyProof.Rows.slot_tuple_getitem.lookup ?_ (by with_unfolding_all rfl)
  refine getItem_tuple_rev ht (Heap.IsSliceOf.new _ _ _ _) ?_ (by rw [List.size_toArray]; omega)
  refine ⟨.ref _, _, I5.laid (t' := s4.toks) (o := .tup xs.reverse) (fun b ob z => Heap.get?_push_of_some _ z) (Nat.le_refl _) ?_, rfl, q _ (I5.hok.fresh (Nat.le_refl _))⟩
  exact ⟨by rw [List.length_reverse]; exact hz, _, r.reverse, IsTup.new _ _⟩

/-! ### len(o) by an own __len__, o with slots -/
def rLenSl (C : Addr) (sp : Sp) (E : XK) : List V → Hp → VK → Prop := fun xs H Q => ∃ a dx vs, xs = [V.ref a] ∧ SlX.Slt H a C dx vs ∧ sp [.ref a] H (fun z H' => ∃ n : Int, z = .int n ∧ 0 ≤ n ∧ n < 2 ^ 63 ∧ Q z H') E
theorem call_lenSl {X : Cx} {CX : CXT} {n : Nat} {C g : Addr} {sp : Sp} {E : XK} (hs : PySem.W.findIn X.K (.ref C) "__len__" = some (some (.ref g))) (hf : PySem.W.isFn X.K (.ref g) = true) (F : FnR X.prog X.w X.K X.mg X.base CX n g sp)
    (hr : Room (n + 1) X.A) (hx : Passes CX X E) : CallR X (.builtin "len") (rLenSl C sp E) := by
  intro pins s σ H xs us Q I r h
  obtain ⟨a, dx, vs, rfl, hsl, q⟩ := h
  obtain ⟨u, rfl, ru⟩ := r.one
  cases (show u = Value.ref a from ru)
  obtain ⟨sl, od, _, J, _⟩ := SlX.slt_inst I hsl
  obtain ⟨m, F0⟩ := I.fr
  refine PySem.W.len_K F0 I.ok.mod.kin J hs hf (wpAny_mono (wpAny_call (SlX.run_at (us := [.ref a]) (ws := [.ref a]) F (show Room n X.A.in1 from Room.in1 hr) I.env0.in1 hx I (.cons rfl .nil) q)) (fun v s' z => ?_) fun _ _ x => x)
  obtain ⟨z', H', I', rz, i, ei, h0, h1, qz⟩ := z
  subst ei
  obtain ⟨t, e⟩ := (show ∃ t, v = Value.int i t from rz)
  cases e
  exact ⟨⟨h0, h1⟩, .int i, H', I'.tok _, ⟨_, rfl⟩, qz⟩
end Bw
-- LayC
set_option autoImplicit true
set_option maxRecDepth 512
set_option Elab.async false
set_option linter.all false
set_option maxRecDepth 100000
set_option maxHeartbeats 4000000
/-! LayC: a written dict whose keys are ints, its values written tuples of ints. -/
namespace Bw
open PySem PySem.Spec PyProof.Rows L2

theorem nodup_map {α β : Type} {f : α → β} : ∀ {l : List α}, l.Nodup → (∀ a b, f a = f b → a = b) → (l.map f).Nodup
  | [], _, _ => List.nodup_nil
  | a :: l, h, hf => by
    rw [List.nodup_cons] at h
    rw [List.map_cons, List.nodup_cons]
    refine ⟨fun hm => ?_, nodup_map h.2 hf⟩
    obtain ⟨b, hb, e⟩ := List.mem_map.mp hm
    rw [hf _ _ e] at hb
    exact h.1 hb
def tupIn (K : PySem.W.Frag) (t : Addr) (xs : List Int) : Bool := match K.lookup t with
  | some ⟨.type c, _, .seq its _, _⟩ => decide (c = "tuple") && (decide (its.size ≤ sizeLine) && He.relAll (xs.map V.int) its.toList)
  | _ => false
theorem tupIn_ok {K : PySem.W.Frag} {t : Addr} {xs : List Int} (h : tupIn K t xs = true) (H : Hp) : SqT K H t (xs.map V.int) := by
  unfold tupIn at h
  cases q : K.lookup t with
  | none => rw [q] at h; cases h
  | some o =>
    obtain ⟨oc, od, dt, osl⟩ := o
    rw [q] at h
    cases oc with
    | type c =>
      cases dt with
      | seq its n =>
        have h' : (decide (c = "tuple") && (decide (its.size ≤ sizeLine) && He.relAll (xs.map V.int) its.toList)) = true := h
        obtain ⟨a1, h2⟩ := He.ba h'
        obtain ⟨a2, a3⟩ := He.ba h2
        exact .inr ⟨_, its, n, q, congrArg Value.type (of_decide_eq_true a1), rfl, of_decide_eq_true a2, He.relAll_ok a3⟩
      | _ => cases h
    | _ => cases dt <;> cases h
def keyInt (v : Value) (k : Int) : Bool := match v with
  | .int i _ => decide (i = k)
  | _ => false
theorem keyInt_ok {v : Value} {k : Int} (h : keyInt v k = true) : keyIs (.inl k) v = true := by
  cases v with
  | int i t =>
    have e : i = k := of_decide_eq_true h
    rw [e]
    exact keyIs_int k t
  | _ => cases h
def valTup (K : PySem.W.Frag) (v : Value) (xs : List Int) : Bool := match v with
  | .ref t => tupIn K t xs
  | _ => false
theorem valTup_ok {K : PySem.W.Frag} {v : Value} {xs : List Int} (h : valTup K v xs = true) : ∃ t, v = .ref t ∧ ∀ H, SqT K H t (xs.map V.int) := by
  cases v with
  | ref t => exact ⟨t, rfl, tupIn_ok h⟩
  | _ => cases h
def entsB (K : PySem.W.Frag) : List DictEntry → List (Int × List Int) → Bool
  | [], [] => true
  | e :: es, p :: r => keyInt e.key p.1 && (decide (e.hash = hashInt p.1) && (valTup K e.val p.2 && entsB K es r))
  | _, _ => false
/-- the module's name x is a dict of these -/
def wdB (K : PySem.W.Frag) (x : Str) (kvs : List (Int × List Int)) : Bool := match K.lookup (He.ga K x) with
  | some ⟨.type c, none, .dict es _, sl⟩ => decide (c = "dict") && (sl.isEmpty && entsB K es.toList kvs)
  | _ => false
theorem ents_ok {P : Program} {w : World} {K : PySem.W.Frag} : ∀ {es : List DictEntry} {kvs : List (Int × List Int)}, entsB K es kvs = true →
    ∃ vs : List (Key × Value), Pairs (mixKind P w) es vs ∧ (∀ e ∈ es, ∃ k, (mixKind P w).is k e.key = true ∧ e.hash = (mixKind P w).hash k) ∧ vs.map (·.1) = kvs.map (fun p => (Sum.inl p.1 : Key)) ∧
      ∀ k xs, kvs.lookup k = some xs → ∃ t, valueAt vs (Sum.inl k : Key) = some (.ref t) ∧ ∀ H, SqT K H t (xs.map V.int)
  | [], [], _ => ⟨[], .nil, ⟨fun e h => absurd h List.not_mem_nil, rfl, fun k xs h => nomatch (show (none : Option (List Int)) = some xs from h)⟩⟩
  | [], _ :: _, h => by cases h
  | _ :: _, [], h => by cases h
  | e :: es, (k, xs) :: r, h => by
    obtain ⟨h1, h'⟩ := He.ba (show (keyInt e.key k && (decide (e.hash = hashInt k) && (valTup K e.val xs && entsB K es r))) = true from h)
    obtain ⟨h2, h'⟩ := He.ba h'
    obtain ⟨h3, h4⟩ := He.ba h'
    obtain ⟨vs, p1, p2, p3, p4⟩ := ents_ok (P := P) (w := w) h4
    obtain ⟨t, et, ht⟩ := valTup_ok h3
    refine ⟨(.inl k, e.val) :: vs, .cons (keyInt_ok h1) rfl p1, fun d hd => ?_, by rw [List.map_cons, List.map_cons, p3], fun j ys hj => ?_⟩
    · rcases List.mem_cons.mp hd with z | z
      · rw [z]
        exact ⟨.inl k, keyInt_ok h1, of_decide_eq_true h2⟩
      · exact p2 d z
    · by_cases hk : j = k
      · subst hk
        have e1 : (((j, xs) :: r).lookup j) = some xs := by simp [List.lookup]
        rw [e1] at hj
        cases hj
        refine ⟨t, ?_, ht⟩
        unfold valueAt
        rw [List.find?_cons]
        simp [et]
      · have e1 : (((k, xs) :: r).lookup j) = r.lookup j := by
          have hb : (j == k) = false := beq_eq_false_iff_ne.mpr hk
          simp [List.lookup, hb]
        rw [e1] at hj
        obtain ⟨t', q1, q2⟩ := p4 j ys hj
        refine ⟨t', ?_, q2⟩
        unfold valueAt at q1 ⊢
        rw [List.find?_cons]
        have hne : ¬ (Sum.inl k : Key) = Sum.inl j := fun z => hk (Sum.inl.inj z).symm
        simp only [hne, decide_false]
        exact q1
/-- what wdB says, at a heap -/
structure WD (K : PySem.W.Frag) (a : Addr) (kvs : List (Int × List Int)) : Prop where
  get : ∀ (P : Program) (w : World) (h : Heap), K.In h → ∃ vs : List (Key × Value), h.DictOf (mixKind P w) a vs ∧ ∀ k xs, kvs.lookup k = some xs → ∃ t, valueAt vs (Sum.inl k : Key) = some (.ref t) ∧ ∀ H, SqT K H t (xs.map V.int)
theorem wdB_ok {K : PySem.W.Frag} {x : Str} {kvs : List (Int × List Int)} (h : wdB K x kvs = true) (hn : (kvs.map (·.1)).Nodup) : WD K (He.ga K x) kvs := by
  refine ⟨fun P w hp hK => ?_⟩
  unfold wdB at h
  cases q : K.lookup (He.ga K x) with
  | none => rw [q] at h; cases h
  | some o =>
    obtain ⟨oc, od, dt, osl⟩ := o
    rw [q] at h
    cases oc with
    | type c =>
      cases od with
      | none =>
        cases dt with
        | dict es n =>
          obtain ⟨h1, h'⟩ := He.ba (show (decide (c = "dict") && (osl.isEmpty && entsB K es.toList kvs)) = true from h)
          obtain ⟨h2, h3⟩ := He.ba h'
          obtain ⟨vs, p1, p2, p3, p4⟩ := ents_ok (P := P) (w := w) h3
          refine ⟨vs, ⟨_, es, n, hK _ _ q, ⟨congrArg Value.type (of_decide_eq_true h1), rfl, Array.isEmpty_iff.mp h2⟩, rfl, fun e he => p2 e (Array.mem_toList_iff.mpr he), p1, ?_⟩, p4⟩
          rw [p3]
          have e : kvs.map (fun p => (Sum.inl p.1 : Key)) = (kvs.map (·.1)).map Sum.inl := by rw [List.map_map]; rfl
          rw [e]
          exact nodup_map hn fun a b hab => Sum.inl.inj hab
        | _ => cases h
      | some a => cases dt <;> cases h
    | _ => cases od <;> cases dt <;> cases h
def tWd (K : PySem.W.Frag) (kvs : List (Int × List Int)) (td ty : TE) (a : Addr) : TE := fun σ H Q => td σ H fun x H1 => ty σ H1 fun y H2 => x = .ref a ∧ ∃ k xs, y = .int k ∧ kvs.lookup k = some xs ∧ ∀ t, SqT K H2 t (xs.map V.int) → Q (.ref t) H2
theorem pe_wd {X : Cx} {o i : Expr} {pos : Pos} {td ty : TE} {a : Addr} {kvs : List (Int × List Int)} (wd : WD X.K a kvs) (ho : PE X o td) (hi : PE X i ty) (hs : NoSl i) : PE X (.Subscript o i pos) (tWd X.K kvs td ty a) := by
  refine ⟨fun pins s σ H Q I h => ?_⟩
  refine subD_of PySem.F.slot_dict_getitem.lookup hs (thn (ho.run pins s σ H _ I h) fun u s1 ⟨x, H1, I1, rx, q1⟩ => thn (hi.run pins s1 σ H1 _ I1 q1) fun iv s2 ⟨y, H2, I2, ry, ex, k, xs, ey, hl, q2⟩ => ?_)
  subst ex ey
  obtain rfl : u = Value.ref a := rx
  obtain ⟨vs, dd, look⟩ := wd.get X.prog X.w s2.heap I2.kIn
  obtain ⟨t, ht, hT⟩ := look k xs hl
  exact ⟨dd.typeIs, wpAny_getItem_of (kV_is (k := (Sum.inl k : Key)) ry) dd.mapOf ht ⟨.ref t, H2, I2.tok _, rfl, q2 t (hT H2)⟩⟩
end Bw
-- LayD
set_option autoImplicit true
set_option maxRecDepth 512
set_option Elab.async false
set_option linter.all false
set_option maxRecDepth 100000
set_option maxHeartbeats 4000000
/-! LayD: {t: v}, t a tuple. -/
namespace Bw
open PySem PySem.Spec PyProof.Rows L2

def tDispT1 (tk tv : TE) : TE := fun σ H Q => ∀ p, H p = none → tk σ (upd H p (.dT [])) fun x H1 => tv σ H1 fun y H2 => ∃ (b : Addr) (k : List Key), x = .ref b ∧ H2 b = some (.tup (k.map kV)) ∧ H2 p = some (.dT []) ∧ Q (.ref p) (upd H2 p (.dT [(k, y)]))
theorem pe_dispT1 {X : Cx} {k v : Expr} {pos : Pos} {tk tv : TE} (hu : X.A.units + 1 < cLine) (hk : PE X k tk) (hv : PE X v tv) : PE X (.Dict [some k] [v] pos) (tDispT1 tk tv) := by
  refine ⟨fun pins s σ H Q I q => ?_⟩
  have hn := I.hok.fresh (Nat.le_refl s.heap.objs.size)
  have I1 := I.laid (a := s.heap.objs.size) (o := .dT []) (h' := s.heap.push { cls := .type "dict", data := .dict #[] }) (t' := s.toks) (fun _ _ z => Heap.get?_push_of_some _ z) (Nat.le_refl _) (dt_empty s.heap I.big)
  rw [arm_eval_Dict, zip_pairTrees [some k] [v] X.env pos rfl rfl, dictDisplay_pairs (pairTrees [some k] [v] X.env pos) (by rw [show pairTrees [some k] [v] X.env pos ≠ [] ↔ True from iff_true_intro fun e => by simpa [pairTrees_length [some k] [v] X.env pos rfl rfl] using congrArg List.length e]; trivial) (by rw [pairTrees_length [some k] [v] X.env pos rfl rfl]; show 1 < 17; decide)]
  refine wpAny_bind (wpAny_standAt (wpAny_bind (wpAny_subDictH (knd := tupleKind (mixKind X.prog X.w)) (Q := fun d s' => wpAny (model X.prog X.w) X.A (pure (Value.ref d)) (EP X pins σ Q) X.xe s') (show X.A.units + 0 < cLine by omega) (by rw [pairTrees_length [some k] [v] X.env pos rfl rfl]; show 1 ≤ 15; decide) ?_)))
  refine pairTrees_cons_walk (thn (hk.run pins _ σ _ _ I1 (q _ hn)) fun kv s1 ⟨x, H1, I2, rx, q1⟩ => thn (hv.run pins s1 σ H1 _ I2 q1) fun vv s2 ⟨y, H2, I3, ry, b, ks, ex, eb, e, q2⟩ => pairTrees_nil_walk ?_)
  subst ex
  obtain rfl : kv = Value.ref b := rx
  obtain ⟨z, hd, xs0, r0, dd⟩ := dt_of I3.hok e
  cases r0
  refine ⟨[(ks, b, vv)], ⟨rfl, rfl, key_of I3.hok eb, trivial⟩, dd, fun h' tk dd' hs => wpAny_pure ⟨.ref s.heap.objs.size, _, ?_, rfl, q2⟩⟩
  obtain ⟨ob, es, ep, hq, h2, h3, h4, _, h5⟩ := dd'
  refine d_write I3 (by rw [e]; exact True.intro) hs ⟨ob, hq⟩ ⟨by show 1 ≤ sizeLine; decide, hd, [(ks, b, vv)], .cons ⟨rfl, ?_, ry⟩ .nil, ob, es, ep, hq, h2, h3, h4, h5⟩
  rw [upd_ne (ne_of eb e (fun z => nomatch z))]
  exact eb
end Bw
-- LayE
set_option autoImplicit true
set_option maxRecDepth 512
set_option Elab.async false
set_option linter.all false
set_option maxRecDepth 100000
set_option maxHeartbeats 4000000
/-! LayE: sorted(xs), xs tuples of ints, any number of them. -/
namespace Bw
open PySem PySem.Spec PyProof.Rows L2

/-! ### the order of lists of ints -/
def lexI : List Int → List Int → Bool
  | [], [] => false
  | [], _ :: _ => true
  | _ :: _, [] => false
  | x :: r, y :: t => if x = y then lexI r t else decide (x < y)
theorem lexI_cons (x y : Int) (r t : List Int) : lexI (x :: r) (y :: t) = if x = y then lexI r t else decide (x < y) := rfl
theorem lexI_irrefl : ∀ a, lexI a a = false
  | [] => rfl
  | x :: r => by rw [lexI_cons, if_pos rfl, lexI_irrefl r]
theorem lexI_asym : ∀ a b, lexI a b = true → lexI b a = false
  | [], [], h => by cases h
  | [], _ :: _, _ => rfl
  | _ :: _, [], h => by cases h
  | x :: r, y :: t, h => by
    rw [lexI_cons] at h ⊢
    by_cases e : x = y
    · subst e
      rw [if_pos rfl] at h ⊢
      exact lexI_asym r t h
    · rw [if_neg e] at h
      rw [if_neg (Ne.symm e)]
      have := of_decide_eq_true h
      exact decide_eq_false (by omega)
theorem lexI_tr : ∀ x y z, lexI y x = false → lexI z y = false → lexI z x = false
  | [], [], [], _, _ => rfl
  | [], [], _ :: _, _, _ => rfl
  | [], _ :: _, [], _, h => by cases h
  | [], _ :: _, _ :: _, _, _ => rfl
  | _ :: _, [], _, h, _ => by cases h
  | _ :: _, _ :: _, [], _, h => by cases h
  | x :: r, y :: t, z :: u, h1, h2 => by
    rw [lexI_cons] at h1 h2 ⊢
    by_cases e1 : y = x
    · subst e1
      rw [if_pos rfl] at h1
      by_cases e2 : z = y
      · subst e2
        rw [if_pos rfl] at h2 ⊢
        exact lexI_tr r t u h1 h2
      · rw [if_neg e2] at h2 ⊢
        exact h2
    · rw [if_neg e1] at h1
      have q1 := of_decide_eq_false h1
      by_cases e2 : z = y
      · subst e2
        rw [if_neg e1]
        exact h1
      · rw [if_neg e2] at h2
        have q2 := of_decide_eq_false h2
        rw [if_neg (by omega)]
        exact decide_eq_false (by omega)
theorem lexI_total : ∀ a b, lexI a b = false → lexI b a = false → a = b
  | [], [], _, _ => rfl
  | [], _ :: _, h, _ => by cases h
  | _ :: _, [], _, h => by cases h
  | x :: r, y :: t, h1, h2 => by
    rw [lexI_cons] at h1 h2
    by_cases e : x = y
    · subst e
      rw [if_pos rfl] at h1 h2
      rw [lexI_total r t h1 h2]
    · rw [if_neg e] at h1
      rw [if_neg (Ne.symm e)] at h2
      have q1 := of_decide_eq_false h1
      have q2 := of_decide_eq_false h2
      omega
theorem swo_lexI {α : Type} (k : α → List Int) : SrtO.Swo fun v u => lexI (k v) (k u) := ⟨fun x y h => lexI_asym _ _ h, fun x y z h1 h2 => lexI_tr _ _ _ h1 h2⟩

/-! ### the tuples of a heap -/
def intV : Value → Int
  | .int i _ => i
  | _ => 0
def kTup (h : Heap) : Value → List Int
  | .ref a => match h.get? a with
    | some o => (match o.data with
      | .seq its _ => its.toList.map intV
      | _ => [])
    | none => []
  | _ => []
/-- a tuple of ints -/
def IntTup (h : Heap) (v : Value) (ns : List Int) : Prop := ∃ (t : Addr) (o : Obj) (its : List Value) (n : Nat), v = .ref t ∧ h.get? t = some o ∧ o.cls = .type "tuple" ∧ o.data = .seq its.toArray n ∧ Vals (ns.map V.int) its
theorem vals_intV : ∀ {ns : List Int} {its : List Value}, Vals (ns.map V.int) its → its.map intV = ns
  | [], [], _ => rfl
  | [], _ :: _, h => by cases h
  | _ :: _, [], h => by cases h
  | n :: ns, v :: its, h => by
    cases h with
    | cons r t =>
      obtain ⟨k, e⟩ := (show ∃ k, v = Value.int n k from r)
      subst e
      rw [List.map_cons, vals_intV t]
      rfl
theorem IntTup.key {h : Heap} {v : Value} {ns : List Int} (x : IntTup h v ns) : kTup h v = ns := by
  obtain ⟨t, o, its, n, rfl, ho, hc, hd, r⟩ := x
  unfold kTup
  simp only [ho, hd]
  exact vals_intV r
theorem intTup_of {X : Cx} {pins : List (Addr × Obj)} {σ : L2.St} {H : Hp} {s : Shared} {t : Addr} {ns : List Int} (I : Inv X pins σ H s) (h : SqT X.K H t (ns.map V.int)) : IntTup s.heap (.ref t) ns := by
  obtain ⟨its, r, ⟨o, ho, hc, n, hd⟩, _⟩ := I.tuple h
  exact ⟨t, o, its, n, rfl, ho, hc, hd, r⟩
section
variable {prog : Program} {w : World} {A : Around} {s : Shared}
theorem kat_ints {R : Bool → Shared → Prop} {b fin : Bool} : ∀ {ns ms : List Int} {ps qs : List Value} (i : Nat), Vals (ns.map V.int) ps → Vals (ms.map V.int) qs → fin = decide (ps.length < qs.length) → R (lexI ns ms) s →
    PySem.W.KatLex prog w A b fin R (ps.zip qs) i s
  | [], [], ps, qs, i, h1, h2, hf, h => by
    cases h1
    cases h2
    rw [hf]
    exact PySem.W.kat_nil h
  | [], _ :: _, ps, qs, i, h1, h2, hf, h => by
    cases h1
    cases h2
    rw [hf]
    exact PySem.W.kat_nil h
  | _ :: _, [], ps, qs, i, h1, h2, hf, h => by
    cases h1
    cases h2
    rw [hf]
    exact PySem.W.kat_nil h
  | n :: ns, m :: ms, ps, qs, i, h1, h2, hf, h => by
    cases h1 with
    | cons r1 t1 =>
      cases h2 with
      | cons r2 t2 =>
        obtain ⟨k1, e1⟩ := r1
        obtain ⟨k2, e2⟩ := r2
        subst e1 e2
        refine PySem.W.kat_cons (SeqAt.EqAt.int_int n k1 m k2 prog w _ _ ?_)
        refine PySem.W.kat_go (fun e => ?_) (fun e => ?_)
        · have en : n = m := by simpa using e
          subst en
          refine PySem.W.kat_yes (kat_ints (i + 1) t1 t2 ?_ ?_)
          · rw [hf]
            simp only [List.length_cons, Nat.add_lt_add_iff_right]
          · rw [lexI_cons, if_pos rfl] at h
            exact h
        · have en : ¬ n = m := by simpa using e
          rw [lexI_cons, if_neg en] at h
          exact PySem.W.kat_no (PyProof.Rows.oneLt_any_int h)
theorem tup_cmp {vs : List Value} (hp : ∀ v ∈ vs, ∃ ns, IntTup s.heap v ns) (k : Value → List Int) (hk : ∀ v ∈ vs, ∀ ns, IntTup s.heap v ns → k v = ns) :
    SrtO.Cmp prog w A s (tuples' true) (fun p => p.1 ∈ vs) (SrtO.lt2 fun v u => lexI (k v) (k u)) := by
  intro p q hm hm'
  obtain ⟨ns, h1⟩ := hp _ hm
  obtain ⟨ms, h2⟩ := hp _ hm'
  show wpAny (model prog w) A (keyLt' (tuples' true) p.1 q.1) (fun r s' => s' = s ∧ r = lexI (k p.1) (k q.1)) (fun _ _ => False) s
  rw [hk _ hm ns h1, hk _ hm' ms h2]
  obtain ⟨t, o, its, n, e, ho, hc, hd, r⟩ := h1
  obtain ⟨t', o', its', n', e', ho', hc', hd', r'⟩ := h2
  rw [e, e']
  exact PySem.W.kat_lt ho hd ho' hd' (kat_ints 0 r r' (by simp) ⟨rfl, rfl⟩)
theorem tups_sortable {a : Addr} {vs : List Value} (h0 : 0 < vs.length) (hp : ∀ v ∈ vs, ∃ n ns, IntTup s.heap v (n :: ns)) (ha : ∀ o, s.heap.get? a = some o → o.cls ≠ .type "tuple") (k : Value → List Int) (hk : ∀ v ∈ vs, ∀ ns, IntTup s.heap v ns → k v = ns) :
    SrtO.SortableO prog w A s a vs fun v u => lexI (k v) (k u) := by
  intro h' keep
  have up : ∀ v ns, IntTup s.heap v ns → IntTup h' v ns := fun v ns ⟨t, o, its, n, e, ho, hc, hd, r⟩ => ⟨t, o, its, n, e, keep t o (fun z => ha o (z ▸ ho) hc) ho, hc, hd, r⟩
  have firsts : ∀ l : List Value, (∀ v ∈ l, ∃ n ns, IntTup h' v (n :: ns)) → ∃ fs, PySem.W.KatTups h' l fs ∧ fs.length = l.length ∧ ∀ f ∈ fs, ∃ x t, f = Value.int x t := by
    intro l
    induction l with
    | nil => exact fun _ => ⟨[], .nil, rfl, fun f hf => absurd hf List.not_mem_nil⟩
    | cons v l ih =>
      intro h
      obtain ⟨fs, q1, q2, q3⟩ := ih fun u hu => h u (List.mem_cons_of_mem _ hu)
      obtain ⟨n, ns, t, o, its, m, e, ho, hc, hd, r⟩ := h v List.mem_cons_self
      subst e
      cases r with
      | @cons _ f _ rest r1 r2 =>
        obtain ⟨k1, e1⟩ := r1
        subst e1
        refine ⟨.int n k1 :: fs, .cons ho hc hd (by simp) q1, by rw [List.length_cons, List.length_cons, q2], fun g hg => ?_⟩
        rcases List.mem_cons.mp hg with z | z
        · exact ⟨n, k1, z⟩
        · exact q3 g z
  obtain ⟨fs, q1, q2, q3⟩ := firsts vs fun v hv => let ⟨n, ns, h⟩ := hp v hv; ⟨n, ns, up _ _ h⟩
  refine ⟨tuples' true, fun Q E hq => ?_, tup_cmp (s := { s with heap := h' }) (fun v hv => let ⟨n, ns, h⟩ := hp v hv; ⟨_, up _ _ h⟩) k fun v hv ns hn => ?_⟩
  · refine PySem.W.kat_kind (T := .type "int") q1 (by omega) (fun f hf => ?_) (by rfl) ?_
    · obtain ⟨x, t, rfl⟩ := q3 f hf
      exact PySem.W.Looks.now
    · have e : (Value.type "int" != Value.type "tuple") = true := by decide +kernel
      rw [e]
      exact hq
  · obtain ⟨n, ms, h⟩ := hp v hv
    rw [hk v hv _ h, ← (up _ _ h).key]
    exact hn.key
end
/-- sorted(xs), tuples of ints: a new list of the same, ascending -/
def rSortIT (K : PySem.W.Frag) : List V → Hp → VK → Prop := fun vs H Q => ∃ (a : Addr) (ks : List (Addr × List Int)), vs = [V.ref a] ∧ SqL K H a (ks.map fun p => V.ref p.1) ∧ (∀ p ∈ ks, SqT K H p.1 (p.2.map V.int)) ∧ (2 ≤ ks.length → ∀ p ∈ ks, p.2 ≠ []) ∧
  ∀ (ks' : List (Addr × List Int)) (p : Addr), ks'.Perm ks → ks'.Pairwise (fun q r => lexI r.2 q.2 = false) → H p = none → Q (.ref p) (upd H p (.lst (ks'.map fun q => V.ref q.1)))
theorem refs_vals : ∀ {as : List Addr} {its : List Value}, Vals (as.map V.ref) its → its = as.map Value.ref
  | [], [], _ => rfl
  | [], _ :: _, h => by cases h
  | _ :: _, [], h => by cases h
  | a :: as, v :: its, h => by
    cases h with
    | cons r t =>
      rw [List.map_cons, ← refs_vals t]
      exact congrArg (· :: its) r
theorem vals_refs : ∀ (as : List Addr), Vals (as.map V.ref) (as.map Value.ref)
  | [] => .nil
  | a :: as => .cons rfl (vals_refs as)
def adV : Value → Addr
  | .ref a => a
  | _ => 0
theorem cr_sortIT {X : Cx} : CallR X (.builtin "sorted") (rSortIT X.K) := by
  intro pins s σ H vs us Q I r h
  obtain ⟨a, ks, rfl, hs, ht, hne, q⟩ := h
  obtain ⟨its, rv, hl, hz⟩ := I.list hs
  have eus : us = [Value.ref a] := by
    obtain ⟨u, rfl, ru⟩ := vals1 r
    cases ru
    rfl
  subst eus
  have em : (ks.map fun p => V.ref p.1) = (ks.map (·.1)).map V.ref := by rw [List.map_map]; rfl
  rw [em] at rv hz
  have ei := refs_vals rv
  rw [List.map_map] at ei
  subst ei
  have at_ : ∀ v ∈ ks.map (Value.ref ∘ fun x => x.fst), ∃ p ∈ ks, v = .ref p.1 ∧ IntTup s.heap v p.2 := fun v hv => by
    obtain ⟨p, hp, e⟩ := List.mem_map.mp hv
    subst e
    exact ⟨p, hp, rfl, intTup_of I (ht p hp)⟩
  have hlen : (ks.map (Value.ref ∘ fun x => x.fst)).length = ks.length := List.length_map _
  refine SrtO.sorted_ord (swo_lexI (kTup s.heap)) hl.isList (by rw [hlen]; simpa using hz) (fun h2 h₁ a' ha' keep => ?_) fun out h1 h2 => ?_
  · rw [hlen] at h2
    refine tups_sortable (s := { s with heap := h₁ }) (by rw [hlen]; omega) (fun v hv => ?_) (fun o ho => ?_) (kTup s.heap) fun v hv ns hn => ?_
    · obtain ⟨p, hp, e, t, o, its, n, e', ho, hc, hd, r⟩ := at_ v hv
      have := hne h2 p hp
      cases hp2 : p.2 with
      | nil => exact absurd hp2 this
      | cons m ms =>
        rw [hp2] at r
        exact ⟨m, ms, t, o, its, n, e', (keep t o ho).2, hc, hd, r⟩
    · have ho2 : h₁.get? a' = some o := ho
      rw [ha'] at ho2
      cases ho2
      show Value.type "list" ≠ Value.type "tuple"
      decide +kernel
    · obtain ⟨p, hp, e, x⟩ := at_ v hv
      rw [x.key]
      obtain ⟨t, o, its, n, e', ho, hc, hd, r⟩ := x
      have y : IntTup h₁ v p.2 := ⟨t, o, its, n, e', (keep t o ho).2, hc, hd, r⟩
      rw [← y.key]
      exact hn.key
  · have perm := h2.perm
    obtain ⟨ep, he'⟩ := PyProof.Rows.sortedAll_at s.heap (ks.map (Value.ref ∘ fun x => x.fst)) out.toArray
    have hout : ∀ v ∈ out, ∃ p ∈ ks, v = .ref p.1 ∧ IntTup s.heap v p.2 := fun v hv => at_ v (perm.mem_iff.mp hv)
    have e1 : out = (out.map fun v => (adV v, kTup s.heap v)).map (fun q => Value.ref q.1) := by
      rw [List.map_map]
      conv => lhs; rw [← List.map_id out]
      refine List.map_congr_left fun v hv => ?_
      obtain ⟨p, _, e, _⟩ := hout v hv
      subst e
      rfl
    have p1 : (out.map fun v => (adV v, kTup s.heap v)).Perm ks := by
      have z := perm.map fun v => (adV v, kTup s.heap v)
      rw [List.map_map] at z
      have e2 : ks.map ((fun v => (adV v, kTup s.heap v)) ∘ (Value.ref ∘ fun x => x.fst)) = ks := by
        conv => rhs; rw [← List.map_id ks]
        refine List.map_congr_left fun p hp => ?_
        have x := intTup_of I (ht p hp)
        show (p.1, kTup s.heap (.ref p.1)) = p
        rw [x.key]
      rw [e2] at z
      exact z
    have hv : Vals ((out.map fun v => (adV v, kTup s.heap v)).map fun q => V.ref q.1) out := by
      have z := vals_refs ((out.map fun v => (adV v, kTup s.heap v)).map (·.1))
      rw [List.map_map, List.map_map] at z
      rw [List.map_map] at e1
      rw [List.map_map]
      have e3 : out.map ((fun q : Addr × List Int => Value.ref q.1) ∘ fun v => (adV v, kTup s.heap v)) = out := e1.symm
      rw [List.map_map, List.map_map] at z
      have e4 : out.map ((Value.ref ∘ fun x : Addr × List Int => x.fst) ∘ fun v => (adV v, kTup s.heap v)) = out := e3
      rw [e4] at z
      exact z
    have hlen2 : ((out.map fun v => (adV v, kTup s.heap v)).map fun q => V.ref q.1).length ≤ sizeLine := by
      rw [List.length_map, p1.length_eq]
      simpa using hz
    refine ⟨.ref _, upd H (s.heap.objs.size + 1) (.lst ((out.map fun v => (adV v, kTup s.heap v)).map fun q => V.ref q.1)), I.laid (t' := s.toks) (fun _ _ => PyProof.Rows.sortedAll_old) (Nat.le_succ _) ⟨hlen2, out, ep, hv, he'⟩, rfl, q _ _ p1 ?_ (I.hok.fresh (Nat.le_succ _))⟩
    rw [List.pairwise_map]
    exact h1
end Bw
-- RaA
set_option autoImplicit true
set_option maxRecDepth 512
set_option Elab.async false
set_option linter.all false
set_option maxRecDepth 100000
set_option maxHeartbeats 1000000
/-! RaA: the real machine where generators sleep with cleanup. -/
namespace Ra
open PySem

/-- the flag of a sleeper is put out -/
def unflag : GenState → GenState
  | .suspended k l c p fs _ => .suspended k l c p fs false
  | x => x
def clr (s : Shared) : Shared := { s with gens := s.gens.map unflag }
/-- a generator's object -/
def IsG (h : Heap) (a : Addr) : Prop := ∃ o, h.get? a = some o ∧ o.genNumber?.isSome = true
/-- sleepers by their numbers, and what they lean on -/
abbrev Lean' := Nat → Addr → Prop
def FlagOk (L : Lean') (s : Shared) : Prop := ∀ i k l c p fs, s.gens[i]? = some (.suspended k l c p fs true) → fs.any Frame.guarded = false ∧ ∃ it as kw, c = .builtin "proto.yield_from" ⟨.ref it :: as, kw⟩ ∧ L i it
theorem FlagOk.mono {L L' : Lean'} {s : Shared} (h : FlagOk L s) (hL : ∀ i a, L i a → L' i a) : FlagOk L' s := fun i k l c p fs e => by
  obtain ⟨h1, it, as, kw, h2, h3⟩ := h i k l c p fs e
  exact ⟨h1, it, as, kw, h2, hL _ _ h3⟩

section
variable (P : Program) (w : World)
abbrev den : Code → Sem Fin := denote table

/-- what the real machine does where a generator falls asleep with cleanup and nothing shows -/
theorem sstep_loud {s : Shared} {v : Value} {g : Bool} {l : List Value} {k : Resume → Sem Fin} {c : Code} {p : Pos} {st fs rest : List Frame} {b : Nat × (GenResult → Sem Fin) × Code × Pos} (hr : s.asleep)
    (hsp : splitAtGen st = some (fs, b, rest)) (hsh : closingShows s fs c g = false) :
    sstep den P w (.single s ⟨.yield v g l k, c, p, st⟩) = (step den P w s ⟨.yield v g l k, c, p, st⟩).lift := by
  have h1 : (Config.single s ⟨.yield v g l k, c, p, st⟩).collect? w.params = none := by
    simp [Config.collect?, Config.single, (nothing_to_collect _ _ _ s _ hr.1).1]
  have h2 : (Config.single s ⟨.yield v g l k, c, p, st⟩).collectable = [] := by
    simp [Config.collectable, Config.single, (nothing_to_collect w.params _ _ s _ hr.1).2]
  have hp : (Config.single s ⟨.yield v g l k, c, p, st⟩).pick w = .ok (.run 0, .single s ⟨.yield v g l k, c, p, st⟩) := by
    have h3 : (Config.single s ⟨.yield v g l k, c, p, st⟩).moves w.params.profile = [.run 0] := by
      simp [Config.moves, Config.single, movesFrom, Thread.moves, Thread.atomic, Thread.rests, Thread.tells]
    simp only [Config.pick, h1, h2, Config.pickThread, h3]
    cases w.params.lifetimes <;> simp
  have hl : ∀ others, lifeStep den P w others s ⟨.yield v g l k, c, p, st⟩ = step den P w s ⟨.yield v g l k, c, p, st⟩ := by
    intro others
    unfold lifeStep
    split
    · simp only [collectorTurn?, hsp, hsh, stepCounting, hr.2, Thread.atItsEnd]
      simp [hr.2]
    · simp only [stepCounting, hr.2]
      simp
  simp only [sstep, hp, Config.move]
  simp only [Config.run, Config.single]
  simp [hl, others_single, frozenBadly, ThreadState.insideWrite, Thread.finalizes]
  cases hh : step den P w s ⟨.yield v g l k, c, p, st⟩ with
  | go s' t' =>
    simp [Step.lift, Config.single, Thread.result?]
    try (split <;> simp_all)
  | halt o s' =>
    simp [Step.lift, Config.single, Thread.result?]
    try (split <;> simp_all)

theorem unflag_bare : ∀ {x : GenState}, x.bare = true → unflag x = x
  | .fresh _, _ => rfl
  | .running, _ => rfl
  | .finished, _ => rfl
  | .suspended _ _ _ _ _ false, _ => rfl
  | .suspended _ _ _ _ _ true, h => by cases h
theorem clr_get (s : Shared) (g : Nat) : (clr s).gens[g]? = s.gens[g]?.map unflag := by simp [clr]
theorem clr_set (s : Shared) (g : Nat) (x : GenState) : clr (s.setGen g x) = (clr s).setGen g (unflag x) := by
  simp [clr, Shared.setGen, Array.map_setIfInBounds]
theorem FlagOk.set {L : Lean'} {s : Shared} {g : Nat} {x : GenState} (h : FlagOk L s) (hx : x.bare = true) : FlagOk L (s.setGen g x) := fun i k l c p fs e => by
  by_cases hi : i = g
  · subst hi
    have e' : (s.gens.setIfInBounds i x)[i]? = some (.suspended k l c p fs true) := e
    rw [Array.getElem?_setIfInBounds_self] at e'
    split at e'
    · cases e'; cases hx
    · cases e'
  · have e' : (s.gens.setIfInBounds g x)[i]? = some (.suspended k l c p fs true) := e
    rw [Array.getElem?_setIfInBounds_ne (Ne.symm hi)] at e'
    exact h i k l c p fs e'
theorem FlagOk.set' {L : Lean'} {s : Shared} {g : Nat} {x : GenState} (h : FlagOk L s) (hx : x.bare = true) : FlagOk (fun i a => L i a ∧ i ≠ g) (s.setGen g x) := fun i k l c p fs e => by
  have e' : (s.gens.setIfInBounds g x)[i]? = some (.suspended k l c p fs true) := e
  by_cases hi : i = g
  · subst hi
    rw [Array.getElem?_setIfInBounds_self] at e'
    split at e'
    · cases e'; cases hx
    · cases e'
  · rw [Array.getElem?_setIfInBounds_ne (Ne.symm hi)] at e'
    obtain ⟨h1, it, as, kw, h2, h3⟩ := h i k l c p fs e'
    exact ⟨h1, it, as, kw, h2, h3, hi⟩
theorem FlagOk.push {L : Lean'} {s : Shared} {c₀ : Code} (h : FlagOk L s) : FlagOk L { s with gens := s.gens.push (.fresh c₀) } := fun i k l c p fs e => by
  have e' : (s.gens.push (.fresh c₀))[i]? = some (.suspended k l c p fs true) := e
  rw [Array.getElem?_push] at e'
  split at e'
  · cases e'
  · exact h i k l c p fs e'
theorem flagOk_of {L : Lean'} {s s' : Shared} (h : FlagOk L s) (e : s'.gens = s.gens) : FlagOk L s' := fun i k l c p fs z => h i k l c p fs (by rw [← e]; exact z)

/-- a step from a state without flags is the same step from the state -/
theorem step_clr {L : Lean'} {s s1 : Shared} {t t1 : Thread} (hF : FlagOk L s) (hq : t.yieldsInsideHandler = false) (h : step den P w (clr s) t = .go s1 t1) : ∃ s2, step den P w s t = .go s2 t1 ∧ clr s2 = s1 ∧ FlagOk L s2 ∧ s2.heap.life = s.heap.life := by
  obtain ⟨heap, gens, drawn, toks, os⟩ := s
  obtain ⟨cur, code, pos, stack⟩ := t
  have same : ∀ {h' : Heap} {d : Drawn} {tk : Nat} {o : OsState}, FlagOk L ⟨h', gens, d, tk, o⟩ := fun {h' d tk o} => flagOk_of hF rfl
  cases cur with
  | pure fin =>
    cases fin with
    | again c =>
      simp only [step, clr] at h ⊢
      cases h
      exact ⟨_, rfl, rfl, hF, rfl⟩
    | done f =>
      cases stack with
      | nil =>
        exfalso
        simp only [step, finish] at h
        split at h <;> cases h
      | cons F st =>
        cases F with
        | ret k h' g l c p kp =>
          simp only [step, clr] at h ⊢
          cases h
          exact ⟨_, rfl, rfl, hF, rfl⟩
        | gen g k l c p =>
          simp only [step, clr] at h ⊢
          cases h
          exact ⟨_, rfl, clr_set ⟨heap, gens, drawn, toks, os⟩ g .finished, hF.set rfl, rfl⟩
  | raise e =>
    cases stack with
    | nil =>
      exfalso
      simp only [step, finish] at h
      split at h <;> cases h
    | cons F st =>
      cases F with
      | ret k h' g l c p kp =>
        simp only [step, clr] at h ⊢
        cases h
        exact ⟨_, rfl, rfl, hF, rfl⟩
      | gen g k l c p =>
        simp only [step, clr] at h ⊢
        cases h
        exact ⟨_, rfl, clr_set ⟨heap, gens, drawn, toks, os⟩ g .finished, hF.set rfl, rfl⟩
  | unsupported what => simp [step] at h
  | finish e => simp only [step] at h; split at h <;> cases h
  | load a part k =>
    simp only [step, clr] at h ⊢
    cases ho : heap.get? a with
    | none => simp only [ho] at h; cases h
    | some o => simp only [ho] at h ⊢; cases h; exact ⟨_, rfl, rfl, hF, rfl⟩
  | update a part f k =>
    simp only [step, clr] at h ⊢
    by_cases ho : (heap.get? a).isSome = true
    · simp only [ho, if_true] at h ⊢; cases h; exact ⟨_, rfl, rfl, same, by cases heap; rfl⟩
    · simp only [ho, if_false] at h; cases h
  | choose src n k =>
    simp only [step, clr] at h ⊢
    by_cases hn : n = 0
    · simp only [hn, if_true] at h; cases h
    · simp only [hn, if_false] at h ⊢; cases h; exact ⟨_, rfl, rfl, same, rfl⟩
  | register a k => simp [step] at h
  | fork c k => simp [step] at h
  | await a f d l k => simp [step] at h
  | genState g k =>
    simp only [step] at h ⊢
    have e0 : (clr ⟨heap, gens, drawn, toks, os⟩).gens = gens.map unflag := rfl
    simp only [clr, Array.getElem?_map] at h
    cases hg : gens[g]? with
    | none => simp only [hg, Option.map_none] at h; cases h
    | some x =>
      simp only [hg, Option.map_some] at h ⊢
      cases x <;> (simp only [unflag] at h ⊢; cases h; exact ⟨_, rfl, rfl, hF, rfl⟩)
  | newGen c k =>
    simp only [step, clr, Array.size_map] at h ⊢
    cases h
    refine ⟨_, rfl, ?_, hF.push, rfl⟩
    simp [clr, unflag]
  | resume g r l k =>
    simp only [step, clr, Array.getElem?_map] at h ⊢
    cases hg : gens[g]? with
    | none => simp only [hg, Option.map_none] at h; cases h
    | some x =>
      simp only [hg, Option.map_some] at h ⊢
      cases x with
      | fresh c =>
        simp only [unflag] at h ⊢
        cases r with
        | send v =>
          cases v <;> (simp only [] at h ⊢; cases h; first | exact ⟨_, rfl, rfl, hF, rfl⟩ | exact ⟨_, rfl, clr_set ⟨heap, gens, drawn, toks, os⟩ g .running, hF.set rfl, rfl⟩)
        | throw e => simp only [] at h ⊢; cases h; exact ⟨_, rfl, clr_set ⟨heap, gens, drawn, toks, os⟩ g .finished, hF.set rfl, rfl⟩
      | suspended k₀ l₀ c₀ p₀ fs cl => simp only [unflag] at h ⊢; cases h; exact ⟨_, rfl, clr_set ⟨heap, gens, drawn, toks, os⟩ g .running, hF.set rfl, rfl⟩
      | running => simp only [unflag] at h ⊢; cases h; exact ⟨_, rfl, rfl, hF, rfl⟩
      | finished => simp only [unflag] at h ⊢; cases h; exact ⟨_, rfl, rfl, hF, rfl⟩
  | yield v g0 l kk =>
    simp only [step, clr] at h ⊢
    cases hs : splitAtGen stack with
    | none => simp only [hs] at h; cases h
    | some x =>
      obtain ⟨fs, ⟨g, k, c, p⟩, rest⟩ := x
      simp only [hs] at h ⊢
      simp only [Thread.yieldsInsideHandler, hs] at hq
      cases h
      rw [hq]
      exact ⟨_, rfl, clr_set ⟨heap, gens, drawn, toks, os⟩ g _, hF.set rfl, rfl⟩
  | _ =>
    simp only [step, clr] at h ⊢
    cases h
    first
      | exact ⟨_, rfl, rfl, hF, rfl⟩
      | exact ⟨_, rfl, rfl, same, rfl⟩
      | exact ⟨_, rfl, rfl, same, by cases heap; rfl⟩

/-- a thread's look, without what the frames keep -/
theorem loud_forget {t t' : Thread} (h : t.forget = t'.forget) : t.loud = t'.loud := by
  obtain ⟨cur, code, pos, stack⟩ := t
  obtain ⟨cur', code', pos', stack'⟩ := t'
  simp only [Thread.forget, Thread.mk.injEq] at h
  obtain ⟨rfl, rfl, rfl, hs⟩ := h
  have key : ∀ (st : List Frame), Thread.loud ⟨cur, code, pos, forgetAll st⟩ = Thread.loud ⟨cur, code, pos, st⟩ := fun st => by
    simp only [Thread.loud, Thread.atCollectorCode, Thread.atExit, Thread.yieldsInsideHandler]
    cases cur with
    | yield v g l k => simp only [splitAtGen_forgetAll]; cases splitAtGen st <;> simp
    | _ => rfl
  rw [← key stack, ← key stack', hs]

/-- ONE STEP of the library's machine is one step of the real one -/
theorem sim_step {L : Lean'} {s s0 s1 : Shared} {t t0 t1 : Thread} (h : (model P w).step s0 t0 = .go s1 t1) (hs : (clr s).forget = s0.forget) (ht : t.forget = t0.forget) (hr : s.asleep) (hF : FlagOk L s) :
    ∃ s2 t2, sstep den P w (.single s t) = .go (.single s2 t2) ∧ (clr s2).forget = s1.forget ∧ t2.forget = t1.forget ∧ s2.asleep ∧ FlagOk L s2 ∧ s2.heap.life = s.heap.life := by
  have hl0 : t0.loud = false := by
    cases hl : t0.loud with
    | false => rfl
    | true => rw [Model.step_loud (model P w) hl] at h; cases h
  have hl : t.loud = false := (loud_forget ht).trans hl0
  rw [Model.step_quiet (model P w) hl0] at h
  have h2 : (step den P w (clr s) t).forget = (Step.go s1 t1).forget := by
    have := stepK_forget (model P w).den (model P w).prog (model P w).w s0 t0
    rw [h] at this
    rw [this]
    exact step_same _ _ _ hs ht
  have hc : t.calm = true := by
    rw [Thread.calm_eq, hl]
    cases hf : t.refused with
    | false => rfl
    | true =>
      exfalso
      obtain ⟨what, e⟩ := stepK_refused den P w (s := clr s) hf
      have := stepK_forget den P w (clr s) t
      rw [e, h2] at this
      cases this
  cases hg : step den P w (clr s) t with
  | halt o x => rw [hg] at h2; cases h2
  | go s1' t1' =>
    rw [hg] at h2
    simp only [Step.forget] at h2
    injection h2 with h3 h4
    have hy : t.yieldsInsideHandler = false := by
      have : (t.atCollectorCode && !t.atExit || t.yieldsInsideHandler) = false := hl
      cases hh : t.yieldsInsideHandler with
      | false => rfl
      | true => rw [hh] at this; simp at this
    obtain ⟨s2, e2, e3, hF2, e4⟩ := step_clr P w hF hy hg
    refine ⟨s2, t1', ?_, by rw [e3]; exact h3, h4, Shared.asleep_of_life e4 hr, hF2, e4⟩
    rcases sstep_single den P w s t hc hr with z | z
    · rw [z, e2]; rfl
    · rw [e2] at z; cases z
end
end Ra
-- RaB
set_option autoImplicit true
set_option maxRecDepth 512
set_option Elab.async false
set_option linter.all false
set_option maxRecDepth 100000
set_option maxHeartbeats 1000000
/-! RaB: the real machine's runs by what follows. -/
namespace Ra
open PySem

/-- the real machine, begun at a state and a thread that look so, ends as is wanted -/
def Fin (P : Program) (w : World) (Φ : Outcome → Shared → Prop) (L : Lean') (s0 : Shared) (t0 : Thread) : Prop :=
  ∀ s t, (clr s).forget = s0.forget → t.forget = t0.forget → s.asleep → FlagOk L s → ∃ n o s', schedN den P w n (.single s t) = .halted o s' ∧ s'.heap.life = s.heap.life ∧ Φ o s'

section
variable {P : Program} {w : World} {Φ : Outcome → Shared → Prop} {L : Lean'} {s0 s1 : Shared} {t0 t1 : Thread}
theorem Fin.mono {L' : Lean'} (h : Fin P w Φ L s0 t0) (hL : ∀ i a, L' i a → L i a) : Fin P w Φ L' s0 t0 := fun s t a b c d => h s t a b c (d.mono hL)
theorem fin_step (h : (model P w).step s0 t0 = .go s1 t1) (k : Fin P w Φ L s1 t1) : Fin P w Φ L s0 t0 := fun s t hs ht hr hF => by
  obtain ⟨s2, t2, e, h1, h2, h3, h4, h5⟩ := sim_step P w h hs ht hr hF
  obtain ⟨n, o, s', hn, hlf, hΦ⟩ := k s2 t2 h1 h2 h3 h4
  refine ⟨n + 1, o, s', ?_, hlf.trans h5, hΦ⟩
  show (match sstep den P w (.single s t) with | .go c' => schedN den P w n c' | .halt o s => .halted o s) = _
  rw [e]
  exact hn
theorem gens_forget {s : Shared} (h : (clr s).forget = s0.forget) (g : Nat) : (s.gens[g]?.map unflag).map GenState.forget = s0.gens[g]?.map GenState.forget := by
  have e : (clr s).forget.gens[g]? = s0.forget.gens[g]? := by rw [h]
  simpa [Shared.forget, clr] using e
/-- who does not sleep leans on nothing -/
theorem fin_drop {g : Nat} (hg : ∀ k l c p fs cl, s0.gens[g]? ≠ some (.suspended k l c p fs cl)) (h : Fin P w Φ (fun i a => L i a ∧ i ≠ g) s0 t0) : Fin P w Φ L s0 t0 := fun s t hs ht hr hF => by
  refine h s t hs ht hr fun i k l c p fs e => ?_
  obtain ⟨h1, it, as, kw, h2, h3⟩ := hF i k l c p fs e
  refine ⟨h1, it, as, kw, h2, h3, fun hi => ?_⟩
  subst hi
  have z := gens_forget hs i
  rw [e] at z
  cases hx : s0.gens[i]? with
  | none => rw [hx] at z; cases z
  | some x =>
    rw [hx] at z
    cases x with
    | suspended k l c p fs cl => exact hg k l c p fs cl hx
    | _ => cases z
theorem fin_reach {base pre : List Frame} {s : Shared} {t : Sem PySem.Fin} {c : Code} {p : Pos} {s' : Shared} {e : End} (h : Reach (model P w) base s t c p pre s' e)
    (k : ∀ t' c' p' pre', Exits e t' c' p' pre' → Fin P w Φ L s' ⟨t', c', p', pre' ++ base⟩) : Fin P w Φ L s ⟨t, c, p, pre ++ base⟩ := by
  induction h with
  | exit hx => exact k _ _ _ _ hx
  | step hs _ ih => exact fin_step hs (ih k)

/-- what the library shows of a tree is what the real machine does -/
theorem fin_wp {α : Type} {K : α → Sem PySem.Fin} {H : Value → Sem PySem.Fin} {gd : Bool → Bool} {lv : List Value → List Value} {st : List Frame} {Γ : Ctx} (hΓ : Γ.Fits st) (m : Sem α) : ∀ {Q : α → Pos → Shared → Prop} {E : Value → Pos → Shared → Prop} {p : Pos} {s : Shared}, Sem.wp (model P w) Γ m Q E p s →
    (∀ a p' s', Q a p' s' → Fin P w Φ L s' ⟨K a, Γ.code, p', st⟩) → (∀ x p' s', E x p' s' → Fin P w Φ L s' ⟨H x, Γ.code, p', st⟩) → Fin P w Φ L s ⟨m.wrap K H gd lv, Γ.code, p, st⟩ := by
  induction m with
  | pure a => intro Q E p s h hQ _; exact hQ a p s h
  | raise x => intro Q E p s h _ hE; exact hE x p s h
  | unsupported what => intro Q E p s h; exact h.elim
  | finish x => intro Q E p s h; exact h.elim
  | register a k => intro Q E p s h; exact h.elim
  | yield v g l k => intro Q E p s h; exact h.elim
  | fork c k => intro Q E p s h; exact h.elim
  | await a f d l k => intro Q E p s h; exact h.elim
  | rule tag k ih => intro Q E p s h hQ hE; exact fin_step (step_rule ..) (ih () h hQ hE)
  | «at» p' k ih => intro Q E p s h hQ hE; exact fin_step (step_at ..) (ih () h hQ hE)
  | load a part k ih =>
    intro Q E p s h hQ hE
    obtain ⟨o, ho, h⟩ := h
    exact fin_step (step_load _ _ _ _ _ _ _ ho) (ih o h hQ hE)
  | update a part f k ih =>
    intro Q E p s h hQ hE
    obtain ⟨ha, h⟩ := h
    exact fin_step (step_update _ _ _ _ _ _ _ _ ha) (ih () h hQ hE)
  | alloc o k ih => intro Q E p s h hQ hE; exact fin_step (step_alloc ..) (ih _ h hQ hE)
  | loadIfAlive a k ih => intro Q E p s h hQ hE; exact fin_step (step_loadIfAlive ..) (ih _ h hQ hE)
  | point l k ih => intro Q E p s h hQ hE; exact fin_step (step_point ..) (ih () h hQ hE)
  | fresh k ih => intro Q E p s h hQ hE; exact fin_step (step_fresh ..) (ih _ h hQ hE)
  | ask k ih => intro Q E p s h hQ hE; exact fin_step (step_ask ..) (ih _ h hQ hE)
  | choose src n k ih =>
    intro Q E p s h hQ hE
    obtain ⟨hn, h⟩ := h
    exact fin_step (step_choose _ _ _ _ _ _ _ hn) (ih _ h hQ hE)
  | os q l k ih => intro Q E p s h hQ hE; exact fin_step (step_os ..) (ih _ h hQ hE)
  | call c h g l k ih =>
    intro Q E p s hw hQ hE
    obtain ⟨r, s₁, hret, hw⟩ := hw
    refine fin_step (step_call ..) ?_
    refine fin_reach (pre := []) (runs_reach hret _ (hΓ.enter c (fun x => (k x).wrap K H gd lv) h (gd g) (lv l) p [])) ?_
    rintro _ _ _ _ ⟨rfl, rfl⟩
    exact fin_step (step_leaf_ret ..) (ih r hw hQ hE)
  | handled own k ih =>
    intro Q E p s h hQ hE
    refine fin_step (step_handled ..) ?_
    have e : topHandled (if own then ownFrames st else st) = if own then Γ.own else Γ.handled := by
      cases own
      · exact hΓ.handled.symm
      · exact hΓ.own.symm
    rw [e]
    exact ih _ h hQ hE
  | newGen c k ih => intro Q E p s h hQ hE; exact fin_step (step_newGen ..) (ih _ h hQ hE)
  | genState g k ih =>
    intro Q E p s h hQ hE
    obtain ⟨st', hg, h⟩ := h
    exact fin_step (step_genState _ _ _ _ _ _ hg) (ih _ h hQ hE)
  | resume g r l k ih =>
    intro Q E p s h hQ hE
    obtain ⟨res, s₁, hwk, h⟩ := h
    unfold Wakes at hwk
    cases hg : s.gens[g]? with
    | none => rw [hg] at hwk; exact hwk.elim
    | some gs =>
      rw [hg] at hwk
      cases gs with
      | fresh c =>
        cases r with
        | send v =>
          by_cases hv : v = .none
          · subst hv
            obtain ⟨e₁, s₂, h₁, hq, rfl, rfl⟩ := hwk
            refine fin_step (step_resume_fresh _ _ _ _ _ _ _ hg) ?_
            refine fin_reach (pre := []) (runs_reach h₁ _ (hΓ.wake c g (fun x => (k x).wrap K H gd lv) (lv l) p)) ?_
            intro _ _ _ _ hx
            exact fin_step (step_exit_gen _ _ _ _ _ _ _ hx hq) (ih _ h hQ hE)
          · have : res = .justStarted ∧ s₁ = s := by cases v <;> first | exact absurd rfl hv | exact hwk
            obtain ⟨rfl, rfl⟩ := this
            exact fin_step (step_resume_justStarted _ _ _ _ _ _ _ hg hv) (ih _ h hQ hE)
        | throw x =>
          obtain ⟨rfl, rfl⟩ := hwk
          exact fin_step (step_resume_throwFresh _ _ _ _ _ _ _ _ hg) (ih _ h hQ hE)
      | suspended k₀ l₀ c₀ p₀ fs cl =>
        obtain ⟨e₁, s₂, h₁, hq, rfl, rfl⟩ := hwk
        refine fin_step (step_resume_suspended _ _ _ _ _ _ _ _ hg) ?_
        refine fin_reach (pre := fs) (base := .gen g (fun x => (k x).wrap K H gd lv) (lv l) Γ.code p :: st) (runs_reach h₁ _ (hΓ.wake c₀ g (fun x => (k x).wrap K H gd lv) (lv l) p)) ?_
        intro _ _ _ _ hx
        exact fin_step (step_exit_gen _ _ _ _ _ _ _ hx hq) (ih _ h hQ hE)
      | running =>
        obtain ⟨rfl, rfl⟩ := hwk
        exact fin_step (step_resume_running _ _ _ _ _ _ _ _ hg) (ih _ h hQ hE)
      | finished =>
        obtain ⟨rfl, rfl⟩ := hwk
        exact fin_step (step_resume_finished _ _ _ _ _ _ _ _ hg) (ih _ h hQ hE)
  | stack k ih =>
    intro Q E p s h hQ hE
    have h' := h
    rw [Sem.wp_stack, hΓ.below] at h'
    exact fin_step (step_stack ..) (ih _ h' hQ hE)
  | thread k ih => intro Q E p s h hQ hE; exact fin_step (step_thread ..) (ih _ h hQ hE)

theorem split_forget {a b : List Frame} (h : forgetAll a = forgetAll b) {fs rest : List Frame} {x : Nat × (GenResult → Sem PySem.Fin) × Code × Pos} (hs : splitAtGen b = some (fs, x, rest)) :
    ∃ fs' rest', splitAtGen a = some (fs', x, rest') ∧ forgetAll fs' = forgetAll fs ∧ forgetAll rest' = forgetAll rest := by
  have e1 := splitAtGen_forgetAll a
  have e2 := splitAtGen_forgetAll b
  rw [h, e2, hs] at e1
  cases ha : splitAtGen a with
  | none => rw [ha] at e1; cases e1
  | some y =>
    obtain ⟨fs', x', rest'⟩ := y
    rw [ha] at e1
    simp only [Option.map_some, Option.some.injEq, Prod.mk.injEq] at e1
    obtain ⟨q1, q2, q3⟩ := e1
    exact ⟨fs', rest', by rw [q2], q1.symm, q3.symm⟩
theorem guarded_forget {a b : List Frame} (h : forgetAll a = forgetAll b) : a.any Frame.guarded = b.any Frame.guarded := by
  rw [← any_guarded_forgetAll a, ← any_guarded_forgetAll b, h]
theorem heap_forget {s : Shared} (h : (clr s).forget = s0.forget) : s.heap = s0.heap := (Shared.forget_eq h).1
theorem os_forget {s : Shared} (h : (clr s).forget = s0.forget) : s.os = s0.os := (Shared.forget_eq h).2.2.2.1
/-- a generator falls asleep over another one -/
theorem fin_yield {v : Value} {l : List Value} {k : Resume → Sem PySem.Fin} {c c' : Code} {p p' : Pos} {st fs rest : List Frame} {gn : Nat} {kk : GenResult → Sem PySem.Fin} {it : Addr} {as : List Value} {kw : List (Str × Value)}
    (hsp : splitAtGen st = some (fs, (gn, kk, c', p'), rest)) (hg : fs.any Frame.guarded = false) (hc : c = .builtin "proto.yield_from" ⟨.ref it :: as, kw⟩) (hi : IsG s0.heap it)
    (h : Fin P w Φ (fun i a => L i a ∨ (i = gn ∧ a = it)) (s0.setGen gn (.suspended k l c p fs false)) ⟨kk (.yielded v), c', p', rest⟩) : Fin P w Φ L s0 ⟨.yield v true l k, c, p, st⟩ := fun s t hs ht hr hF => by
  obtain ⟨cur, code, pos, stack⟩ := t
  simp only [Thread.forget, Thread.mk.injEq] at ht
  obtain ⟨rfl, rfl, rfl, hst⟩ := ht
  obtain ⟨fs', rest', hsp', hfs, hrest⟩ := split_forget hst hsp
  have hg' : fs'.any Frame.guarded = false := (guarded_forget hfs).trans hg
  have eh := heap_forget hs
  have hsh : closingShows s fs' code true = false := by
    obtain ⟨o, ho, hn⟩ := hi
    rw [← eh] at ho
    unfold closingShows
    rw [hg', hc]
    simp only [delegateShows, ho]
    cases hgn : o.genNumber? with
    | none => rw [hgn] at hn; cases hn
    | some m => simp [hr.1]
  have e1 := sstep_loud P w (v := v) (g := true) (l := l) (k := k) (c := code) (p := pos) hr hsp' hsh
  have e2 : step den P w s ⟨.yield v true l k, code, pos, stack⟩ = .go (s.setGen gn (.suspended k l code pos fs' true)) ⟨kk (.yielded v), c', p', rest'⟩ := by
    obtain ⟨heap, gens, drawn, toks, os⟩ := s
    simp only [step, hsp', Bool.true_or]
    rfl
  rw [e2] at e1
  have z1 : (clr (s.setGen gn (.suspended k l code pos fs' true))).forget = (s0.setGen gn (.suspended k l code pos fs false)).forget := by
    rw [clr_set]
    have e5 : (clr s).gens.map GenState.forget = s0.gens.map GenState.forget := (Shared.forget_eq hs).2.2.2.2
    have e6 : s.drawn = s0.drawn := (Shared.forget_eq hs).2.1
    have e7 : s.toks = s0.toks := (Shared.forget_eq hs).2.2.1
    have e8 := os_forget hs
    simp only [Shared.forget, Shared.setGen, unflag, Array.map_setIfInBounds, GenState.forget_suspended, hfs, e5, Shared.mk.injEq]
    exact ⟨eh, trivial, e6, e7, e8⟩
  have z2 : (Thread.mk (kk (.yielded v)) c' p' rest').forget = (Thread.mk (kk (.yielded v)) c' p' rest).forget := by
    simp only [Thread.forget, hrest]
  have z3 : FlagOk (fun i a => L i a ∨ (i = gn ∧ a = it)) (s.setGen gn (.suspended k l code pos fs' true)) := by
    intro i k1 l1 c1 p1 fs1 e
    by_cases hi' : i = gn
    · subst hi'
      have e' : (s.gens.setIfInBounds i (.suspended k l code pos fs' true))[i]? = some (.suspended k1 l1 c1 p1 fs1 true) := e
      rw [Array.getElem?_setIfInBounds_self] at e'
      split at e'
      · cases e'
        exact ⟨hg', it, as, kw, hc, .inr ⟨rfl, rfl⟩⟩
      · cases e'
    · have e' : (s.gens.setIfInBounds gn (.suspended k l code pos fs' true))[i]? = some (.suspended k1 l1 c1 p1 fs1 true) := e
      rw [Array.getElem?_setIfInBounds_ne (Ne.symm hi')] at e'
      obtain ⟨h1, it', as', kw', h2, h3⟩ := hF i k1 l1 c1 p1 fs1 e'
      exact ⟨h1, it', as', kw', h2, .inl h3⟩
  obtain ⟨n, o, s', hn, hlf, hΦ⟩ := h _ _ z1 z2 hr z3
  refine ⟨n + 1, o, s', ?_, hlf, hΦ⟩
  show (match sstep den P w (.single s ⟨.yield v true l k, code, pos, stack⟩) with | .go c' => schedN den P w n c' | .halt o s => .halted o s) = _
  rw [e1]
  exact hn

/-- the end -/
theorem fin_done {r : Result} {c : Code} {p : Pos} (hL : ∀ i a, L i a → IsG s0.heap a) (hb : leftWithCleanup s0.gens = false) (h : ∀ s', s'.heap = s0.heap → s'.os = s0.os → Φ (outcomeOf r) s') : Fin P w Φ L s0 ⟨leafOf r, c, p, []⟩ := fun s t hs ht hr hF => by
  obtain ⟨cur, code, pos, stack⟩ := t
  simp only [Thread.forget, Thread.mk.injEq] at ht
  obtain ⟨rfl, rfl, rfl, hst⟩ := ht
  have hst' : stack = [] := by
    cases stack with
    | nil => rfl
    | cons F st => cases hst
  subst hst'
  have eh := heap_forget hs
  have eo := os_forget hs
  have hcl : ∀ (k : Resume → Sem PySem.Fin) (l : List Value) (c : Code) (p : Pos) (fs : List Frame) (i : Nat), s.gens[i]? = some (GenState.suspended k l c p fs true) → closingShows s fs c true = false := fun k l c p fs i e => by
    obtain ⟨h1, it, as, kw, h2, h3⟩ := hF i k l c p fs e
    obtain ⟨o, ho, hn⟩ := hL _ _ h3
    rw [← eh] at ho
    unfold closingShows
    rw [h1, h2]
    simp only [delegateShows, ho]
    cases hgn : o.genNumber? with
    | none => rw [hgn] at hn; cases hn
    | some m => simp [hr.1]
  have hno : leftWithCleanup (forgetSuspended (w.params.lifetimes == .anyTime) s).gens = false := by
    unfold leftWithCleanup
    rw [Array.any_eq_false']
    intro x hx
    obtain ⟨i, hi, ex⟩ := Array.mem_iff_getElem.mp hx
    have e1 : (forgetSuspended (w.params.lifetimes == .anyTime) s).gens[i]? = some x := by rw [Array.getElem?_eq_getElem hi, ex]
    simp only [forgetSuspended, Array.getElem?_map] at e1
    cases hg : s.gens[i]? with
    | none => rw [hg] at e1; cases e1
    | some y =>
      rw [hg] at e1
      simp only [Option.map_some, Option.some.injEq] at e1
      subst e1
      cases y with
      | suspended k l c p fs cl =>
        cases cl with
        | true =>
          have q := hcl k l c p fs i hg
          simp only [q]
          simp
        | false => simp
      | _ => simp
  have hcalm : (Thread.calm ⟨leafOf r, code, pos, []⟩) = true := by cases r <;> rfl
  have hpick := pick_single w s ⟨leafOf r, code, pos, []⟩ hcalm hr.1
  have hls : ∀ others, lifeStep den P w others s ⟨leafOf r, code, pos, []⟩ = .halt (outcomeOf r) (forgetSuspended (w.params.lifetimes == .anyTime) s) := by
    intro others
    rw [lifeStep_calm0 den P w others s _ hcalm hr]
    have he : Thread.atItsEnd ⟨leafOf r, code, pos, []⟩ = true := by cases r <;> rfl
    rw [if_pos he]
    have e9 : ∀ s9 : Shared, step den P w s9 ⟨leafOf r, code, pos, []⟩ = finish (outcomeOf r) s9 := fun s9 => by cases r <;> rfl
    rw [e9]
    unfold finish
    rw [if_neg (by rw [hno]; exact Bool.false_ne_true)]
  refine ⟨1, outcomeOf r, forgetSuspended (w.params.lifetimes == .anyTime) s, ?_, rfl, h _ eh eo⟩
  show (match sstep den P w (.single s ⟨leafOf r, code, pos, []⟩) with | .go c' => schedN den P w 0 c' | .halt o s => .halted o s) = _
  have e1 : sstep den P w (.single s ⟨leafOf r, code, pos, []⟩) = .halt (outcomeOf r) (forgetSuspended (w.params.lifetimes == .anyTime) s) := by
    simp only [sstep, hpick, Config.move]
    cases r with
    | ok f =>
      simp only [Config.run, Config.single, leafOf]
      simp only [leafOf] at hls
      simp [hls, others_single, frozenBadly, ThreadState.insideWrite, Thread.finalizes]
    | error e =>
      simp only [Config.run, Config.single, leafOf]
      simp only [leafOf] at hls
      simp [hls, others_single, frozenBadly, ThreadState.insideWrite, Thread.finalizes]
  rw [e1]
end
end Ra
-- RaC
set_option autoImplicit true
set_option maxRecDepth 512
set_option Elab.async false
set_option linter.all false
set_option maxRecDepth 100000
set_option maxHeartbeats 1000000
/-! RaC: stretches of a thread over a stack, a generator's runs. -/
namespace Ra
open PySem

abbrev SPred := Lean' → Shared → Code → Sem PySem.Fin → List Frame → Prop
section
variable (P : Program) (w : World) (Φ : Outcome → Shared → Prop)
/-- over every stack of B the thread ends well -/
def SB (B : List Frame → Prop) : SPred := fun L s c t fs => ∀ base, B base → ∀ p, Fin P w Φ L s ⟨t, c, p, fs ++ base⟩
/-- .. with so many still to hand out -/
abbrev FEnd := Nat → Result → Lean' → Shared → Prop
/-- what is handed out, where; what may be woken again -/
abbrev FProt := Value → Lean' → Shared → (Lean' → Shared → Prop) → Prop
def goOn (S : SPred) : GenState → Lean' → Shared → Prop
  | .suspended k _ c _ fs _, L, s => S L s c (k (.send .none)) fs
  | _, _, _ => False
/-- a generator's stretch: n more may be handed out -/
def FSeg (g : Nat) (A : Around) (R : FEnd) (Y : Nat → FProt) : Nat → SPred
  | 0 => SB P w Φ fun base => ∃ k l c p rest, base = .gen g k l c p :: rest ∧ (Ctx.of c base).Woken A ∧ ∀ r L s, R 0 r L s → Fin P w Φ L (s.setGen g .finished) ⟨k (End.ret r).result, c, p, rest⟩
  | n + 1 => SB P w Φ fun base => ∃ k l c p rest, base = .gen g k l c p :: rest ∧ (Ctx.of c base).Woken A ∧ (∀ r L s, R (n + 1) r L s → Fin P w Φ L (s.setGen g .finished) ⟨k (End.ret r).result, c, p, rest⟩) ∧
      ∀ v L s gs, gs.bare = true → Y n v L s (goOn (FSeg g A R Y n) gs) → Fin P w Φ L (s.setGen g gs) ⟨k (.yielded v), c, p, rest⟩
end

section
variable {P : Program} {w : World} {Φ : Outcome → Shared → Prop} {B : List Frame → Prop} {A : Around} {L : Lean'} {s : Shared} {c : Code} {fs : List Frame}
/-- every stack of B is within A -/
def Under (B : List Frame → Prop) (A : Around) : Prop := ∀ base, B base → ∀ c, (Ctx.of c base).Woken A
theorem sb_wrap {α : Type} {m : Sem α} {K : α → Sem PySem.Fin} {H : Value → Sem PySem.Fin} {gd : Bool → Bool} {lv : List Value → List Value} (hB : Under B A)
    (h : wpAny (model P w) (A.over c fs) m (fun a s' => SB P w Φ B L s' c (K a) fs) (fun x s' => SB P w Φ B L s' c (H x) fs) s) : SB P w Φ B L s c (m.wrap K H gd lv) fs := fun base hb p => by
  have e := Ctx.of_append c fs base
  have hin : (Ctx.of c (fs ++ base)).In (A.over c fs) := by rw [e]; exact (hB base hb c).over fs
  exact fin_wp (Γ := Ctx.of c (fs ++ base)) (Ctx.fits_of _ _) m (h _ p hin) (fun a p' s' q => q base hb p') fun x p' s' q => q base hb p'
theorem sb_bind {α : Type} {m : Sem α} {K : α → Sem PySem.Fin} (hB : Under B A) (h : wpAny (model P w) (A.over c fs) m (fun a s' => SB P w Φ B L s' c (K a) fs) (fun x s' => SB P w Φ B L s' c (.raise x) fs) s) : SB P w Φ B L s c (m >>= K) fs := by
  rw [Sem.bind_eq_wrap']
  exact sb_wrap hB h
theorem sb_bind_wrap {α β : Type} {m : Sem α} {f : α → Sem β} {K : β → Sem PySem.Fin} {H : Value → Sem PySem.Fin} {gd : Bool → Bool} {lv : List Value → List Value} (hB : Under B A)
    (h : wpAny (model P w) (A.over c fs) m (fun a s' => SB P w Φ B L s' c ((f a).wrap K H gd lv) fs) (fun x s' => SB P w Φ B L s' c (H x) fs) s) : SB P w Φ B L s c ((m >>= f).wrap K H gd lv) fs := by
  rw [Sem.bind_eq_wrap', Sem.wrap_wrap]
  exact sb_wrap hB h
theorem sb_at {p' : Pos} {k : Unit → Sem PySem.Fin} (h : SB P w Φ B L s c (k ()) fs) : SB P w Φ B L s c (.at p' k) fs := fun base hb p => fin_step (step_at ..) (h base hb p')
theorem sb_rule {tag : String} {k : Unit → Sem PySem.Fin} (h : SB P w Φ B L s c (k ()) fs) : SB P w Φ B L s c (.rule tag k) fs := fun base hb p => fin_step (step_rule ..) (h base hb p)
theorem sb_point {l : List Value} {k : Unit → Sem PySem.Fin} (h : SB P w Φ B L s c (k ()) fs) : SB P w Φ B L s c (.point l k) fs := fun base hb p => fin_step (step_point ..) (h base hb p)
theorem sb_call {c' : Code} {h : Option Value} {g : Bool} {l : List Value} {k : Result → Sem PySem.Fin} (q : ∀ p, SB P w Φ B L s c' (den c') (.ret k h g l c p [] :: fs)) : SB P w Φ B L s c (.call c' h g l k) fs := fun base hb p =>
  fin_step (step_call ..) (q p base hb p)
theorem sb_leaf {k : Result → Sem PySem.Fin} {h : Option Value} {g : Bool} {l : List Value} {c₁ : Code} {p₁ : Pos} {kp : List Value} (r : Result) (q : SB P w Φ B L s c₁ (k r) fs) : SB P w Φ B L s c (leafOf r) (.ret k h g l c₁ p₁ kp :: fs) := fun base hb p =>
  fin_step (step_leaf_ret ..) (q base hb p₁)
theorem sb_again {c' : Code} (hq : c'.quiet = true) (h : SB P w Φ B L s c' (den c') fs) : SB P w Φ B L s c (.pure (.again c')) fs := fun base hb p => fin_step (step_again _ _ _ _ _ _ hq) (h base hb p)
theorem sb_mono {L' : Lean'} {t : Sem PySem.Fin} (h : SB P w Φ B L s c t fs) (hL : ∀ i a, L' i a → L i a) : SB P w Φ B L' s c t fs := fun base hb p => (h base hb p).mono hL
theorem sb_drop {g : Nat} {t : Sem PySem.Fin} (hg : ∀ k l c p fs cl, s.gens[g]? ≠ some (.suspended k l c p fs cl)) (h : SB P w Φ B (fun i a => L i a ∧ i ≠ g) s c t fs) : SB P w Φ B L s c t fs := fun base hb p => fin_drop hg (h base hb p)

/-- a generator is woken -/
def FGo (P : Program) (w : World) (Φ : Outcome → Shared → Prop) (g : Nat) (A : Around) (R : FEnd) (Y : Nat → FProt) (n : Nat) : GenState → Lean' → Shared → Prop
  | .fresh c, L, s => FSeg P w Φ g A R Y n L s c (den c) []
  | x, L, s => goOn (FSeg P w Φ g A R Y n) x L s
theorem sb_resume {g n : Nat} {gs : GenState} {R : FEnd} {Y : Nat → FProt} {l : List Value} {k : GenResult → Sem PySem.Fin} (hB : Under B A) (hg : s.gens[g]? = some gs) (hgo : FGo P w Φ g (A.over c fs) R Y n gs L (s.setGen g .running))
    (hR : ∀ r L1 s1, R n r L1 s1 → SB P w Φ B L1 (s1.setGen g .finished) c (k (End.ret r).result) fs)
    (hY : ∀ m v L1 s1 gs', n = m + 1 → gs'.bare = true → Y m v L1 s1 (goOn (FSeg P w Φ g (A.over c fs) R Y m) gs') → SB P w Φ B L1 (s1.setGen g gs') c (k (.yielded v)) fs) : SB P w Φ B L s c (.resume g (.send .none) l k) fs := fun base hb p => by
  have e := Ctx.of_append c fs base
  have hin : (Ctx.of c (fs ++ base)).In (A.over c fs) := by rw [e]; exact (hB base hb c).over fs
  have hw : (Ctx.of c (.gen g k l c p :: (fs ++ base))).Woken (A.over c fs) := hin.wake c p
  cases gs with
  | running => exact hgo.elim
  | finished => exact hgo.elim
  | fresh c₁ =>
    refine fin_step (step_resume_fresh _ _ _ _ _ _ _ hg) ?_
    cases n with
    | zero => exact hgo _ ⟨k, l, c, p, fs ++ base, rfl, hw, fun r L1 s1 hr => hR r L1 s1 hr base hb p⟩ p
    | succ m => exact hgo _ ⟨k, l, c, p, fs ++ base, rfl, hw, fun r L1 s1 hr => hR r L1 s1 hr base hb p, fun v L1 s1 gs' hbare hy => hY m v L1 s1 gs' rfl hbare hy base hb p⟩ p
  | suspended k₀ l₀ c₀ p₀ fs₀ cl =>
    refine fin_step (step_resume_suspended _ _ _ _ _ _ _ _ hg) ?_
    cases n with
    | zero => exact hgo _ ⟨k, l, c, p, fs ++ base, rfl, hw, fun r L1 s1 hr => hR r L1 s1 hr base hb p⟩ p₀
    | succ m => exact hgo _ ⟨k, l, c, p, fs ++ base, rfl, hw, fun r L1 s1 hr => hR r L1 s1 hr base hb p, fun v L1 s1 gs' hbare hy => hY m v L1 s1 gs' rfl hbare hy base hb p⟩ p₀

variable {g n : Nat} {R : FEnd} {Y : Nat → FProt}
/-- the stacks that a generator's stretch is over -/
def GB (P : Program) (w : World) (Φ : Outcome → Shared → Prop) (g : Nat) (A : Around) (R : FEnd) (Y : Nat → FProt) : Nat → List Frame → Prop
  | 0 => fun base => ∃ k l c p rest, base = .gen g k l c p :: rest ∧ (Ctx.of c base).Woken A ∧ ∀ r L s, R 0 r L s → Fin P w Φ L (s.setGen g .finished) ⟨k (End.ret r).result, c, p, rest⟩
  | n + 1 => fun base => ∃ k l c p rest, base = .gen g k l c p :: rest ∧ (Ctx.of c base).Woken A ∧ (∀ r L s, R (n + 1) r L s → Fin P w Φ L (s.setGen g .finished) ⟨k (End.ret r).result, c, p, rest⟩) ∧
      ∀ v L s gs, gs.bare = true → Y n v L s (goOn (FSeg P w Φ g A R Y n) gs) → Fin P w Φ L (s.setGen g gs) ⟨k (.yielded v), c, p, rest⟩
theorem fseg_eq : ∀ n, FSeg P w Φ g A R Y n = SB P w Φ (GB P w Φ g A R Y n)
  | 0 => rfl
  | _ + 1 => rfl
theorem gb_under : ∀ n, Under (GB P w Φ g A R Y n) A
  | 0 => fun base ⟨k, l, c', p, rest, e, h, _⟩ c => h.goto c
  | _ + 1 => fun base ⟨k, l, c', p, rest, e, h, _⟩ c => h.goto c
theorem fseg_end {r : Result} (h : R n r L s) : FSeg P w Φ g A R Y n L s c (leafOf r) [] := by
  cases n with
  | zero =>
    rintro _ ⟨k, l, c', p', rest, rfl, hw, hR⟩ p
    exact fin_step (step_leaf_gen ..) (hR r L s h)
  | succ n =>
    rintro _ ⟨k, l, c', p', rest, rfl, hw, hR, _⟩ p
    exact fin_step (step_leaf_gen ..) (hR r L s h)
theorem fseg_yield {v : Value} {l : List Value} {k : Resume → Sem PySem.Fin} (hfs : splitAtGen fs = none) (hgd : fs.any Frame.guarded = false)
    (h : Y n v L s fun L2 s2 => FSeg P w Φ g A R Y n L2 s2 c (k (.send .none)) fs) : FSeg P w Φ g A R Y (n + 1) L s c (.yield v false l k) fs := by
  rintro _ ⟨kk, ll, c', p', rest, rfl, hw, hR, hY⟩ p
  have hsp : splitAtGen (fs ++ .gen g kk ll c' p' :: rest) = some (fs, (g, kk, c', p'), rest) := by
    rw [splitAtGen_append_none _ hfs, splitAtGen_gen]; simp
  have hq : (End.susp v false l k c p fs).quiet = true := by simp [End.quiet, hgd]
  refine fin_step (step_yield _ _ _ _ _ _ _ _ _ hsp hq) ?_
  have e : (End.susp v false l k c p fs).genState = .suspended k l c p fs false := by simp [End.genState, hgd]
  rw [e]
  exact hY v L s _ rfl h
/-- asleep over a generator -/
theorem fseg_yield_over {v : Value} {l : List Value} {k : Resume → Sem PySem.Fin} {it : Addr} {as : List Value} {kw : List (Str × Value)} (hfs : splitAtGen fs = none) (hgd : fs.any Frame.guarded = false) (hc : c = .builtin "proto.yield_from" ⟨.ref it :: as, kw⟩) (hi : IsG s.heap it)
    (h : Y n v (fun i a => L i a ∨ (i = g ∧ a = it)) s fun L2 s2 => FSeg P w Φ g A R Y n L2 s2 c (k (.send .none)) fs) : FSeg P w Φ g A R Y (n + 1) L s c (.yield v true l k) fs := by
  rintro _ ⟨kk, ll, c', p', rest, rfl, hw, hR, hY⟩ p
  have hsp : splitAtGen (fs ++ .gen g kk ll c' p' :: rest) = some (fs, (g, kk, c', p'), rest) := by
    rw [splitAtGen_append_none _ hfs, splitAtGen_gen]; simp
  exact fin_yield hsp hgd hc hi (hY v _ s _ rfl h)
/-- the end and the protocol may be made weaker -/
theorem fseg_imp {R' : FEnd} {Y' : Nat → FProt} (hR : ∀ n r L s, R n r L s → R' n r L s) (hY : ∀ m v L s κ κ', (∀ L2 s2, κ L2 s2 → κ' L2 s2) → Y m v L s κ → Y' m v L s κ') :
    ∀ (n : Nat) {L : Lean'} {s : Shared} {c : Code} {t : Sem PySem.Fin} {fs : List Frame}, FSeg P w Φ g A R Y n L s c t fs → FSeg P w Φ g A R' Y' n L s c t fs := by
  intro n
  induction n with
  | zero =>
    rintro L s c t fs h base ⟨k, l, c', p', rest, e, hw, hR'⟩ p
    exact h base ⟨k, l, c', p', rest, e, hw, fun r L s q => hR' r L s (hR _ r L s q)⟩ p
  | succ n ih =>
    rintro L s c t fs h base ⟨k, l, c', p', rest, e, hw, hR', hY'⟩ p
    refine h base ⟨k, l, c', p', rest, e, hw, fun r L s q => hR' r L s (hR _ r L s q), fun v L s gs hb q => hY' v L s gs hb (hY n v L s _ _ (fun L2 s2 z => ?_) q)⟩ p
    cases gs with
    | suspended k₀ l₀ c₀ p₀ fs₀ cl => exact ih z
    | _ => exact z
end
end Ra
-- RaD
set_option autoImplicit true
set_option maxRecDepth 512
set_option Elab.async false
set_option linter.all false
set_option maxRecDepth 100000
set_option maxHeartbeats 1000000
/-! RaD: trees and calls on the real machine, by what follows. -/
namespace Ra
open PySem

section
variable (P : Program) (w : World) (Φ : Outcome → Shared → Prop)
/-- a tree of a thread that hands out nothing: what follows is Q, or E -/
def wpR {α : Type} (A : Around) (m : Sem α) (Q : α → Lean' → Shared → Prop) (E : Value → Lean' → Shared → Prop) (L : Lean') (s : Shared) : Prop :=
  ∀ (B : List Frame → Prop) (AB : Around) (c : Code) (fs : List Frame) (K : α → Sem PySem.Fin) (H : Value → Sem PySem.Fin) (gd : Bool → Bool) (lv : List Value → List Value), Under B AB → AB.over c fs = A →
    (∀ a L1 s1, Q a L1 s1 → SB P w Φ B L1 s1 c (K a) fs) → (∀ x L1 s1, E x L1 s1 → SB P w Φ B L1 s1 c (H x) fs) → SB P w Φ B L s c (m.wrap K H gd lv) fs
/-- a code that is called -/
def codeR (A : Around) (c : Code) (R : Result → Lean' → Shared → Prop) (L : Lean') (s : Shared) : Prop :=
  ∀ (B : List Frame → Prop) (AB : Around) (c₀ : Code) (fs : List Frame) (k : Result → Sem PySem.Fin) (g : Bool) (l : List Value) (p : Pos) (kp : List Value), Under B AB → AB.over c₀ fs = A →
    (∀ r L1 s1, R r L1 s1 → SB P w Φ B L1 s1 c₀ (k r) fs) → SB P w Φ B L s c (den c) (.ret k none g l c₀ p kp :: fs)
end
theorem wrap_id {α : Type} (m : Sem α) : m.wrap .pure .raise id id = m := by
  induction m <;> simp only [Sem.wrap, id, *]
theorem over_under {A : Around} {c c' : Code} {fs : List Frame} {k : Result → Sem PySem.Fin} {g : Bool} {l kp : List Value} {p : Pos} : A.over c' (.ret k none g l c p kp :: fs) = (A.over c fs).under c' := by
  have e2 : A.depth + frameCount ((Frame.ret k none g l c p kp :: fs).map Frame.where_) + c'.weight = A.depth + frameCount (fs.map Frame.where_) + c.weight + c'.weight := by
    show A.depth + frameCount ((c, p) :: fs.map Frame.where_) + c'.weight = _
    rw [frameCount_cons]; omega
  have e3 : pushEnvs (envsOf ((Frame.ret k none g l c p kp :: fs).map Frame.where_)) A.frames = pushEnvs c.envs (pushEnvs (envsOf (fs.map Frame.where_)) A.frames) := by
    show pushEnvs (envsOf ((c, p) :: fs.map Frame.where_)) A.frames = _
    rw [envsOf_cons]
    simp only [pushEnvs_eq]
    cases A.frames <;> simp [List.append_assoc]
  have e4 : pushGuards (guardsOf ((Frame.ret k none g l c p kp :: fs).map Frame.where_)) A.guards = pushGuards c.guards (pushGuards (guardsOf (fs.map Frame.where_)) A.guards) := by
    show pushGuards (guardsOf ((c, p) :: fs.map Frame.where_)) A.guards = _
    rw [guardsOf_cons]
    simp only [pushGuards_eq]
    cases A.guards <;> simp [List.append_assoc]
  have e5 : A.units + unitsOf ((Frame.ret k none g l c p kp :: fs).map Frame.where_) + c'.cUnits = A.units + unitsOf (fs.map Frame.where_) + c.cUnits + c'.cUnits := by
    show A.units + unitsOf ((c, p) :: fs.map Frame.where_) + c'.cUnits = _
    rw [unitsOf_cons]; omega
  have e1 : (marksOver (Frame.ret k none g l c p kp :: fs) (A.handled, A.handled)).1 = (marksOver fs (A.handled, A.handled)).1 := rfl
  unfold Around.over Around.under
  rw [e1, e2, e3, e4, e5]

section
variable {P : Program} {w : World} {Φ : Outcome → Shared → Prop} {α β : Type} {A : Around} {L : Lean'} {s : Shared} {E : Value → Lean' → Shared → Prop}
theorem wpR_lift {m : Sem α} {Q : α → Lean' → Shared → Prop} (h : wpAny (model P w) A m (fun a s' => Q a L s') (fun x s' => E x L s') s) : wpR P w Φ A m Q E L s := by
  intro B AB c fs K H gd lv hB hA hQ hE
  subst hA
  exact sb_wrap hB (wpAny_mono h (fun a s' q => hQ a L s' q) fun x s' q => hE x L s' q)
theorem wpR_pure {a : α} {Q : α → Lean' → Shared → Prop} (h : Q a L s) : wpR P w Φ A (pure a) Q E L s := fun B AB c fs K H gd lv hB hA hQ hE => hQ a L s h
theorem wpR_throw {x : Value} {Q : α → Lean' → Shared → Prop} (h : E x L s) : wpR P w Φ A (throw x : Sem α) Q E L s := fun B AB c fs K H gd lv hB hA hQ hE => hE x L s h
theorem wpR_bind {m : Sem α} {f : α → Sem β} {Q : β → Lean' → Shared → Prop} (h : wpR P w Φ A m (fun a L' s' => wpR P w Φ A (f a) Q E L' s') E L s) : wpR P w Φ A (m >>= f) Q E L s := by
  intro B AB c fs K H gd lv hB hA hQ hE
  rw [Sem.bind_eq_wrap', Sem.wrap_wrap]
  exact h B AB c fs _ _ _ _ hB hA (fun a L1 s1 q => q B AB c fs K H gd lv hB hA hQ hE) fun x L1 s1 q => hE x L1 s1 q
theorem wpR_bindL {m : Sem α} {f : α → Sem β} {Q : β → Lean' → Shared → Prop} (h : wpAny (model P w) A m (fun a s' => wpR P w Φ A (f a) Q E L s') (fun x s' => E x L s') s) : wpR P w Φ A (m >>= f) Q E L s :=
  wpR_bind (wpR_lift h)
theorem wpR_mono {m : Sem α} {Q Q' : α → Lean' → Shared → Prop} {E' : Value → Lean' → Shared → Prop} (h : wpR P w Φ A m Q E L s) (hQ : ∀ a L s, Q a L s → Q' a L s) (hE : ∀ x L s, E x L s → E' x L s) : wpR P w Φ A m Q' E' L s :=
  fun B AB c fs K H gd lv hB hA kQ kE => h B AB c fs K H gd lv hB hA (fun a L1 s1 q => kQ a L1 s1 (hQ a L1 s1 q)) fun x L1 s1 q => kE x L1 s1 (hE x L1 s1 q)
theorem wpR_holding {vs : List Value} {m : Sem α} {Q : α → Lean' → Shared → Prop} (h : wpR P w Φ A m Q E L s) : wpR P w Φ A (holding vs m) Q E L s := by
  intro B AB c fs K H gd lv hB hA hQ hE
  rw [holding_eq_keep, Sem.keep_eq_wrap, Sem.wrap_wrap]
  exact h B AB c fs _ _ _ _ hB hA (fun a L1 s1 q => hQ a L1 s1 q) fun x L1 s1 q => hE x L1 s1 q
theorem wpR_tryCatch {m : Sem α} {k : Value → Sem α} {Q : α → Lean' → Shared → Prop} (h : wpR P w Φ A m Q (fun x L' s' => wpR P w Φ A (k x) Q E L' s') L s) : wpR P w Φ A (m.tryCatch k) Q E L s := by
  intro B AB c fs K H gd lv hB hA hQ hE
  rw [Sem.tryCatch_eq_wrap, Sem.wrap_wrap]
  exact h B AB c fs _ _ _ _ hB hA (fun a L1 s1 q => hQ a L1 s1 q) fun x L1 s1 q => q B AB c fs K H gd lv hB hA hQ hE
theorem wpR_attempt {m : Sem α} {Q : Except Value α → Lean' → Shared → Prop} (h : wpR P w Φ A m (fun a => Q (.ok a)) (fun x => Q (.error x)) L s) : wpR P w Φ A m.attempt Q E L s := by
  unfold Sem.attempt
  refine wpR_tryCatch (wpR_bind (wpR_mono h (fun a L1 s1 q => wpR_pure q) fun x L1 s1 q => wpR_pure q))
theorem wpR_rule {tag : String} {Q : Unit → Lean' → Shared → Prop} (h : Q () L s) : wpR P w Φ A (rule tag) Q E L s := wpR_lift (wpAny_rule h)
theorem wpR_onRaise {m : Sem α} {k : Value → Sem Unit} {Q : α → Lean' → Shared → Prop} (h : wpR P w Φ A m Q (fun x L' s' => wpR P w Φ A (k x) (fun _ L'' s'' => E x L'' s'') E L' s') L s) : wpR P w Φ A (m.onRaise k) Q E L s := by
  intro B AB c fs K H gd lv hB hA hQ hE
  rw [Sem.onRaise_eq_wrap, Sem.wrap_wrap]
  refine h B AB c fs _ _ _ _ hB hA (fun a L1 s1 q => hQ a L1 s1 q) fun x L1 s1 q => ?_
  show SB P w Φ B L1 s1 c (((k x).bind fun _ => .raise x).wrap K H gd lv) fs
  rw [Sem.bind_eq_wrap, Sem.wrap_wrap]
  exact q B AB c fs _ _ _ _ hB hA (fun _ L2 s2 q2 => hE x L2 s2 q2) fun y L2 s2 q2 => hE y L2 s2 q2

/-! ### codes -/
theorem codeR_of_tree {c : Code} {R : Result → Lean' → Shared → Prop}
    (h : wpR P w Φ (A.under c) (den c) (fun fin L' s' => match fin with | .done f => R (.ok f) L' s' | .again c' => c'.quiet = true ∧ codeR P w Φ A c' R L' s') (fun x L' s' => R (.error x) L' s') L s) : codeR P w Φ A c R L s := by
  intro B AB c₀ fs k g l p kp hB hA hR
  have e : den c = (den c).wrap .pure .raise id id := (wrap_id _).symm
  rw [e]
  refine h B AB c (.ret k none g l c₀ p kp :: fs) _ _ _ _ hB (by rw [over_under, hA]) (fun fin L1 s1 q => ?_) fun x L1 s1 q => sb_leaf (.error x) (hR _ L1 s1 q)
  cases fin with
  | done f => exact sb_leaf (.ok f) (hR _ L1 s1 q)
  | again c' => exact sb_again q.1 (q.2 B AB c₀ fs k g l p kp hB hA hR)
theorem codeR_lift {c : Code} {R : Result → Lean' → Shared → Prop} (h : codeAny (model P w) A c (fun r s' => R r L s') s) : codeR P w Φ A c R L s := by
  intro B AB c₀ fs k g l p kp hB hA hR base hb p'
  subst hA
  have e := Ctx.of_append c₀ fs base
  have hin : (Ctx.of c₀ (fs ++ base)).In (AB.over c₀ fs) := by rw [e]; exact (hB base hb c₀).over fs
  have hbel := hin.enter c none p' (by intro z; cases z)
  obtain ⟨r, s', hr, hq⟩ := h ((Ctx.of c₀ (fs ++ base)).enter c none p') p' rfl hbel
  have fit : ((Ctx.of c₀ (fs ++ base)).enter c none p).Fits (.ret k none g l c₀ p kp :: (fs ++ base)) := (Ctx.fits_of c₀ (fs ++ base)).enter c k none g l p kp
  have hbel2 := hin.enter c none p (by intro z; cases z)
  obtain ⟨r, s', hr, hq⟩ := h ((Ctx.of c₀ (fs ++ base)).enter c none p) p' rfl hbel2
  refine fin_reach (pre := []) (base := .ret k none g l c₀ p kp :: (fs ++ base)) (runs_reach hr _ fit) ?_
  rintro _ _ _ _ ⟨rfl, rfl⟩
  exact fin_step (step_leaf_ret ..) (hR r L s' hq base hb p)
theorem wpR_runValue {c : Code} {Q : Value → Lean' → Shared → Prop} (h : codeR P w Φ A c (fun r L' s' => match r with | .ok (.ret v) => Q v L' s' | .ok _ => False | .error x => E x L' s') L s) : wpR P w Φ A (runValue c) Q E L s := by
  intro B AB c₀ fs K H gd lv hB hA hQ hE
  refine sb_call fun p => ?_
  refine h B AB c₀ fs _ _ _ p [] hB hA fun r L1 s1 q => ?_
  cases r with
  | error x => exact hE x L1 s1 q
  | ok f =>
    cases f with
    | ret v => exact hQ v L1 s1 q
    | next => exact q.elim
    | brk => exact q.elim
    | cont => exact q.elim
theorem wpR_call {f : Value} {pos : List Value} {kw : List (Str × Value)} {Q : Value → Lean' → Shared → Prop} (h : codeR P w Φ A (.call f ⟨pos, kw⟩) (fun r L' s' => match r with | .ok (.ret v) => Q v L' s' | .ok _ => False | .error x => E x L' s') L s) :
    wpR P w Φ A (call f pos kw) Q E L s := wpR_runValue h
theorem wpR_resume {g n : Nat} {gs : GenState} {R : FEnd} {Y : Nat → FProt} {Q : GenResult → Lean' → Shared → Prop} (hg : s.gens[g]? = some gs) (hgo : FGo P w Φ g A R Y n gs L (s.setGen g .running))
    (hR : ∀ r L1 s1, R n r L1 s1 → Q (End.ret r).result L1 (s1.setGen g .finished))
    (hY : ∀ m v L1 s1 gs', n = m + 1 → gs'.bare = true → Y m v L1 s1 (goOn (FSeg P w Φ g A R Y m) gs') → Q (.yielded v) L1 (s1.setGen g gs')) : wpR P w Φ A (resume g (.send .none)) Q E L s := by
  intro B AB c fs K H gd lv hB hA hQ hE
  subst hA
  exact sb_resume hB hg hgo (fun r L1 s1 q => hQ _ L1 _ (hR r L1 s1 q)) fun m v L1 s1 gs' e hb q => hQ _ L1 _ (hY m v L1 s1 gs' e hb q)
/-- a built-in code that is called by its slot -/
theorem wpR_call_entry {T : String} {name : Str} {id : String} {b : Builtin} {self : Value} {rest : List Value} {Q : Value → Lean' → Shared → Prop} (h : Slot T name id) (hT : s.TypeIs self T) (hb : entryFor table id = some b)
    (hc : wpR P w Φ A.in1 (b ⟨self :: rest, []⟩) (fun fin L' s' => ∃ v, fin = .done (.ret v) ∧ Q v L' s') E L s) (ha : argsOk id ⟨self :: rest, []⟩ := by rfl) : wpR P w Φ A (call (.builtin id) (self :: rest)) Q E L s := by
  refine wpR_call (codeR_of_tree ?_)
  show wpR P w Φ A.in1 (do checkBuiltinCall id ⟨self :: rest, []⟩; again (.builtin id ⟨self :: rest, []⟩)) _ _ L s
  refine wpR_bindL (h.check _ _ _ _ _ _ _ _ hT ha ?_)
  refine wpR_pure ⟨plainId_quiet h.plain _, codeR_of_tree ?_⟩
  rw [Around.under_plainId h.plain]
  show wpR P w Φ A.in1 (match entryFor table id with | some b => b ⟨self :: rest, []⟩ | none => unsupported ((withoutEnding? id "#data").getD id)) _ _ L s
  rw [hb]
  refine wpR_mono hc (fun fin L1 s1 q => ?_) fun x L1 s1 q => q
  obtain ⟨v, rfl, hv⟩ := q
  exact hv
theorem wpR_special {self : Value} {T : String} {name : Str} {id : String} {args : List Value} {Q : Option Value → Lean' → Shared → Prop} (hT : s.TypeIs self T) (h : Slot T name id)
    (hc : wpR P w Φ A (call (.builtin id) (self :: args)) (fun v => Q (some v)) E L s) : wpR P w Φ A (callSpecial? self name args) Q E L s := by
  simp only [callSpecial?]
  refine wpR_bindL (wpAny_specialOf hT h.lookup ?_)
  simp only [h.bind]
  exact wpR_holding (wpR_bind (wpR_pure (wpR_bind (wpR_mono hc (fun v L1 s1 q => wpR_pure q) fun x L1 s1 q => q))))
end
end Ra
-- RaE
set_option autoImplicit true
set_option maxRecDepth 512
set_option Elab.async false
set_option linter.all false
set_option maxRecDepth 100000
set_option maxHeartbeats 1000000
/-! RaE: generators are woken. -/
namespace Ra
open PySem PySem.Spec PyProof.Rows L2

/-- how many sleep over it -/
def slotN (o : Obj) : Int := match (o.slots[0]? : Option (Option Value)) with
  | some (some (Value.int n _)) => n
  | _ => 0
/-- a generator's object -/
def IsGW (h : Heap) (a : Addr) (g : Nat) (z : Int) : Prop := ∃ o nm qn, h.get? a = some o ∧ o.cls = .type "generator" ∧ o.data = .fields #[.int g 0, nm, qn] ∧ slotN o = z
theorem IsGW.typeIs {s : Shared} {a : Addr} {g : Nat} {z : Int} (x : IsGW s.heap a g z) : s.TypeIs (.ref a) "generator" := let ⟨o, _, _, ho, hc, _⟩ := x; ⟨o, ho, hc⟩
theorem IsGW.isG {h : Heap} {a : Addr} {g : Nat} {z : Int} (x : IsGW h a g z) : IsG h a := by
  obtain ⟨o, nm, qn, ho, hc, hd, _⟩ := x
  refine ⟨o, ho, ?_⟩
  unfold Obj.genNumber?
  rw [hc, hd]
  rfl
theorem IsGW.keeps {h h' : Heap} {a : Addr} {g : Nat} {z : Int} (x : IsGW h a g z) (k : ∀ o, h.get? a = some o → h'.get? a = some o) : IsGW h' a g z := let ⟨o, nm, qn, ho, r⟩ := x; ⟨o, nm, qn, k o ho, r⟩
theorem IsGW.of {h : Heap} {a : Addr} {g : Nat} (x : h.IsGen a g) : IsGW h a g 0 := by
  obtain ⟨o, nm, qn, ho, hc, hd, hs⟩ := x
  refine ⟨o, nm, qn, ho, hc, hd, ?_⟩
  unfold slotN
  rw [hs]
  rfl
section
variable {M : Model} {A : Around} {s : Shared} {E : Value → Shared → Prop}
theorem wpAny_genNumberW {a : Addr} {g : Nat} {z : Int} {Q : Nat → Shared → Prop} (hg : IsGW s.heap a g z) (hz : z ≤ 0) (h : Q g s) : wpAny M A (Builtin.Generator.genNumber (.ref a)) Q E s := by
  obtain ⟨o, nm, qn, ho, _, hd, hs⟩ := hg
  unfold Builtin.Generator.genNumber
  refine wpAny_bind (wpAny_load ho ?_)
  have fin : wpAny M A (match o.data with
      | .fields vs => match (vs[0]? : Option Value) with
        | some (Value.int i _) => (pure i.toNat : Sem Nat)
        | _ => unsupported "internal:generator-number"
      | _ => unsupported "internal:no-fields") Q E s := by
    rw [hd]
    show wpAny M A (pure ((g : Int).toNat)) Q E s
    rw [Int.toNat_natCast]
    exact wpAny_pure h
  unfold slotN at hs
  cases e1 : (o.slots[0]? : Option (Option Value)) with
  | none => exact fin
  | some x =>
    cases x with
    | none => exact fin
    | some v =>
      rw [e1] at hs
      cases v with
      | int n t =>
        have hn : n = z := hs
        subst hn
        simp only []
        rw [if_neg (by omega)]
        exact fin
      | _ => exact fin
theorem wpAny_sleptW {a : Addr} {g : Nat} {z : Int} {more : Bool} {Q : Unit → Shared → Prop} (hg : IsGW s.heap a g z)
    (h : ∀ h', IsGW h' a g (if more then z + 1 else z - 1) → (∀ b o, b ≠ a → s.heap.get? b = some o → h'.get? b = some o) → h'.objs.size = s.heap.objs.size → Q () { s with heap := h' }) : wpAny M A (Builtin.Generator.sleptOver (.ref a) more) Q E s := by
  obtain ⟨o, nm, qn, ho, hc, hd, hs⟩ := hg
  unfold Builtin.Generator.sleptOver
  refine wpAny_bind (wpAny_load ho ?_)
  rw [hc, if_neg (by decide)]
  unfold slotN at hs
  have key : ∀ n : Int, n = z → wpAny M A (setSlotAt a 0 (some (rawInt (if more = true then n + 1 else n - 1)))) Q E s := fun n hn => by
    subst hn
    unfold setSlotAt
    rw [if_neg (by decide)]
    have hu := Heap.get?_update_self (fun o : Obj => { o with slots := (o.slots ++ Array.replicate (0 + 1 - o.slots.size) none).setIfInBounds 0 (some (rawInt (if more = true then n + 1 else n - 1))) }) ho (by
      unfold Obj.isFreed
      rw [hd])
    refine wpAny_updatePart ho (h _ ⟨_, nm, qn, hu, hc, hd, ?_⟩ (fun b ob hb e => (Heap.get?_update_other _ _ (Ne.symm hb)).trans e) (by rw [Heap.size_update]))
    unfold slotN
    have hsz : 0 < (o.slots ++ Array.replicate (0 + 1 - o.slots.size) none).size := by
      rw [Array.size_append, Array.size_replicate]; omega
    simp only [Array.getElem?_setIfInBounds_self, hsz, if_true]
    rfl
  cases e1 : (o.slots[0]? : Option (Option Value)) with
  | none => rw [e1] at hs; exact key 0 hs
  | some x =>
    cases x with
    | none => rw [e1] at hs; exact key 0 hs
    | some v =>
      rw [e1] at hs
      cases v with
      | int n t => exact key n hs
      | _ => exact key 0 hs
end

/-- a generator's end that is no exception -/
def endF (F : Nat → Lean' → Shared → Prop) : FEnd := fun n r L s => (r = .ok (.ret .none) ∨ r = .ok .next) ∧ F n L s
section
variable {P : Program} {w : World} {Φ : Outcome → Shared → Prop} {A : Around} {L : Lean'} {s : Shared} {E : Value → Lean' → Shared → Prop}
theorem wpR_genNext {a : Addr} {g n : Nat} {gs : GenState} {F : Nat → Lean' → Shared → Prop} {Y : Nat → FProt} {Q : Option Value → Lean' → Shared → Prop} (hh : A.handled = none) (hl : s.heap.NoLimit) (hroom : A.depth < recursionLimit)
    (hg : IsGW s.heap a g 0) (hgs : s.gens[g]? = some gs) (hgo : FGo P w Φ g A.in1 (endF F) Y n gs L (s.setGen g .running))
    (hY : ∀ m v L1 s1 gs', n = m + 1 → gs'.bare = true → Y m v L1 s1 (goOn (FSeg P w Φ g A.in1 (endF F) Y m) gs') → Q (some v) L1 (s1.setGen g gs'))
    (hF : ∀ L1 s1 e h', F n L1 s1 → StopX e h' → (∀ b o, s1.heap.get? b = some o → h'.get? b = some o) → E e L1 { s1.setGen g .finished with heap := h' }) :
    wpR P w Φ A (callSpecial? (.ref a) "__next__") Q E L s := by
  refine wpR_special (name := Str.ofString "__next__") hg.typeIs slot_gen_next (wpR_call_entry slot_gen_next hg.typeIs entry_gen_next ?_ (args_gen_next _))
  show wpR P w Φ A.in1 (Builtin.Generator.genWake (.ref a) (.send .none)) _ _ L s
  unfold Builtin.Generator.genWake
  refine wpR_bindL (wpAny_holding (wpAny_genNumberW hg (by decide) (wpR_bindL (wpAny_genState hgs ?_))))
  have main : wpR P w Φ A.in1 (do
      match ← resume g (.send .none) with
      | .yielded v => ret v
      | .returned v =>
        if v == .none then raiseNew (← newExc (.type "StopIteration") [])
        rule "generator.return-value"; throw (← newExc (.type "StopIteration") [v])
      | .raised e =>
        if let .throw _ := (Resume.send Value.none) then
          if gs.status == GenStatus.fresh then rule "generator.throw.into-fresh"; throw e
        Builtin.Generator.genLeft (.ref a) e
      | .running => rule "generator.already-executing"; raiseError "ValueError" "generator already executing"
      | .justStarted => rule "generator.send-to-fresh"; raiseError "TypeError" "can't send non-None value to a just-started generator"
      | .finished =>
        match (Resume.send Value.none) with
        | .send _ => raiseNew (← newExc (.type "StopIteration") [])
        | .throw e => throw e : Sem PySem.Fin) (fun fin L' s' => ∃ v, fin = .done (.ret v) ∧ Q (some v) L' s') E L s := by
    refine wpR_bind (wpR_resume hgs hgo (fun r L1 s1 hr => ?_) fun m v L1 s1 gs' e hb hy => ?_)
    · obtain ⟨hr, hf⟩ := hr
      have hres : (End.ret r).result = .returned .none := by
        rcases hr with hr | hr <;> rw [hr] <;> rfl
      rw [hres]
      refine wpR_lift ?_
      show wpAny (model P w) A.in1 (newExc (.type "StopIteration") [] >>= _) _ _ _
      refine wpAny_bind ?_
      simp only [newExc, newTuple]
      refine wpAny_bind (wpAny_newObj_type ?_ (by size_fits))
      refine wpAny_bind (m := firstArgMember _ _) (wpAny_of_eq (a := Value.none) (by first | rfl | (simp only [firstArgMember]; rfl)) ?_)
      refine wpAny_newObj_type ?_ (by size_fits)
      simp only [raiseNew]
      refine wpAny_bind (wpAny_bind (wpAny_handled ?_))
      first | rw [show A.in1.handled = none from hh] | rw [hh]
      refine wpAny_throw ?_
      refine hF L1 s1 _ _ hf ⟨_, _, _, rfl, Heap.get?_push_size _ rfl, rfl, rfl, ?_⟩ fun b o e => Heap.get?_push_of_some _ (Heap.get?_push_of_some _ e)
      first
        | rfl
        | kernel_rfl
    · exact wpR_pure ⟨v, rfl, hY m v L1 s1 gs' e hb hy⟩
  cases gs with
  | running => exact hgo.elim
  | finished => exact hgo.elim
  | fresh c => exact wpR_bindL (wpAny_roomToWake hl hroom main)
  | suspended k l c p fs cl => exact wpR_bindL (wpAny_roomToWake hl hroom main)
theorem wpR_genPy {a : Addr} {g n : Nat} {gs : GenState} {F : Nat → Lean' → Shared → Prop} {Y : Nat → FProt} {Q : Option Value → Lean' → Shared → Prop} (hh : A.handled = none) (hl : s.heap.NoLimit) (hroom : A.depth < recursionLimit)
    (hg : IsGW s.heap a g 0) (hgs : s.gens[g]? = some gs) (hgo : FGo P w Φ g A.in1 (endF F) Y n gs L (s.setGen g .running))
    (hY : ∀ m v L1 s1 gs', n = m + 1 → gs'.bare = true → Y m v L1 s1 (goOn (FSeg P w Φ g A.in1 (endF F) Y m) gs') → Q (some v) L1 (s1.setGen g gs'))
    (hF : ∀ L1 s1 h', F n L1 s1 → (∀ b o, s1.heap.get? b = some o → h'.get? b = some o) → Q none L1 { s1.setGen g .finished with heap := h' }) :
    wpR P w Φ A (pyNext (.ref a)) Q E L s := by
  unfold pyNext
  refine wpR_bind (wpR_attempt (wpR_genNext hh hl hroom hg hgs hgo (fun m v L1 s1 gs' e hb hy => wpR_pure (hY m v L1 s1 gs' e hb hy)) fun L1 s1 e h' hf hst hk => ?_))
  obtain ⟨b, o, vs, rfl, ho, hc, _⟩ := hst
  refine wpR_lift ?_
  refine wpAny_bind (wpAny_isInstance (T := "StopIteration") (b := true) ⟨o, ho, hc⟩ isSubtype_stop ?_)
  exact wpAny_pure (hF L1 s1 h' hf hk)
end
end Ra
-- RaF
set_option autoImplicit true
set_option maxRecDepth 512
set_option Elab.async false
set_option linter.all false
set_option maxRecDepth 100000
set_option maxHeartbeats 1000000
/-! RaF: statements on the real machine. -/
namespace Ra
open PySem PySem.Spec PyProof.Rows L2

/-- where a def's code runs: the stacks below; what is pinned beside (by what is out, and by the sleepers); how many may be handed out in all; the number above the generator's own -/
structure Bed (P : Program) (w : World) (Φ : Outcome → Shared → Prop) where
  AB : Around
  Bn : Nat → List Frame → Prop
  under : ∀ n, Under (Bn n) AB
  N : Nat
  num : Nat
  Ch : List Addr
  TP : List V → Lean' → List (Addr × Obj) → Prop
  cover : ∀ ys L pt, TP ys L pt → ∀ S ∈ Ch, ∃ o, (S, o) ∈ pt

section
variable {X : Cx} {Φ : Outcome → Shared → Prop}
/-- running: ys is out -/
def RI (X : Cx) (b : Bed X.prog X.w Φ) (ip : List (Addr × Obj)) (ys : List V) (L : Lean') (σ : L2.St) (H : Hp) (s : Shared) : Prop :=
  ∃ pt, b.TP ys L pt ∧ (∀ q ∈ pt, ∀ r ∈ X.pn ++ ip, q.1 ≠ r.1) ∧ Inv X (pt ++ ip) σ H s ∧ b.num ≤ s.gens.size
def RSP (X : Cx) (b : Bed X.prog X.w Φ) (ip : List (Addr × Obj)) (D : GEnds) (ys : List V) (L : Lean') (f : Flow) (s : Shared) : Prop :=
  match f with
  | .next => ∃ σ H, RI X b ip ys L σ H s ∧ D.nx ys σ H
  | .brk => ∃ σ H, RI X b ip ys L σ H s ∧ D.bk ys σ H
  | .cont => ∃ σ H, RI X b ip ys L σ H s ∧ D.ct ys σ H
  | .ret u => ∃ v σ H, RI X b ip ys L σ H s ∧ RelV v u ∧ D.rt ys v H
/-- where the code stands -/
structure RC (X : Cx) (b : Bed X.prog X.w Φ) (c : Code) (fs : List Frame) (gd : Bool → Bool) : Prop where
  over : b.AB.over c fs = X.A
  split : splitAtGen fs = none
  guard : fs.any Frame.guarded = false
  gd : gd false = false
  nox : ∀ e s, ¬ X.xe e s
def RK (X : Cx) (b : Bed X.prog X.w Φ) (ip : List (Addr × Obj)) (c : Code) (fs : List Frame) (K : Flow → Sem PySem.Fin) (D : GEnds) : Prop :=
  ∀ (n : Nat) (ys : List V) (L : Lean') (s : Shared) (f : Flow), n + ys.length = b.N → RSP X b ip D ys L f s → SB X.prog X.w Φ (b.Bn n) L s c (K f) fs
structure RS (X : Cx) (C : Bed X.prog X.w Φ → Prop) (st : Stmt) (t : TGn) : Prop where
  run : ∀ b, C b → ∀ (n : Nat) (ys : List V) (L : Lean') (c : Code) (fs : List Frame) (K : Flow → Sem PySem.Fin) (J : Value → Sem PySem.Fin) (gd : Bool → Bool) (lv : List Value → List Value) (s : Shared) (σ : L2.St) (H : Hp) (ip : List (Addr × Obj)) (D : GEnds),
    RC X b c fs gd → n + ys.length = b.N → RK X b ip c fs K D → RI X b ip ys L σ H s → t D ys σ H → SB X.prog X.w Φ (b.Bn n) L s c ((exec st X.env).wrap K J gd lv) fs
structure RSs (X : Cx) (C : Bed X.prog X.w Φ → Prop) (st : List Stmt) (t : TGn) : Prop where
  run : ∀ b, C b → ∀ (n : Nat) (ys : List V) (L : Lean') (c : Code) (fs : List Frame) (K : Flow → Sem PySem.Fin) (J : Value → Sem PySem.Fin) (gd : Bool → Bool) (lv : List Value → List Value) (s : Shared) (σ : L2.St) (H : Hp) (ip : List (Addr × Obj)) (D : GEnds),
    RC X b c fs gd → n + ys.length = b.N → RK X b ip c fs K D → RI X b ip ys L σ H s → t D ys σ H → SB X.prog X.w Φ (b.Bn n) L s c ((execs st X.env).wrap K J gd lv) fs

variable {C : Bed X.prog X.w Φ → Prop} {st : Stmt} {rest : List Stmt}
theorem rsp_of {b : Bed X.prog X.w Φ} {ip pt : List (Addr × Obj)} {D : GEnds} {ys : List V} {L : Lean'} {f : Flow} {s : Shared} (h : b.TP ys L pt) (hd : ∀ q ∈ pt, ∀ r ∈ X.pn ++ ip, q.1 ≠ r.1) (hn : b.num ≤ s.gens.size) (q : SP X (pt ++ ip) (D.at ys) f s) : RSP X b ip D ys L f s := by
  cases f with
  | next => obtain ⟨σ, H, I, q⟩ := q; exact ⟨σ, H, ⟨pt, h, hd, I, hn⟩, q⟩
  | brk => obtain ⟨σ, H, I, q⟩ := q; exact ⟨σ, H, ⟨pt, h, hd, I, hn⟩, q⟩
  | cont => obtain ⟨σ, H, I, q⟩ := q; exact ⟨σ, H, ⟨pt, h, hd, I, hn⟩, q⟩
  | ret u => obtain ⟨v, σ, H, I, r, q⟩ := q; exact ⟨v, σ, H, ⟨pt, h, hd, I, hn⟩, r, q⟩
theorem rs_ps {t : TS} (h : PS X st t) : RS X C st (tPlain t) := by
  refine ⟨fun b _ n ys L c fs K J gd lv s σ H ip D g hn k hI ht => ?_⟩
  obtain ⟨pt, hT, hdj, I, hsz⟩ := hI
  refine sb_wrap (b.under n) ?_
  rw [g.over]
  exact GenW.wpAny_gsz hsz (wpAny_mono (h.run _ s σ H (D.at ys) I ht) (fun f s' hs hz => k n ys L s' f hn (rsp_of hT hdj hz hs)) fun x s' hx => (g.nox x s' hx).elim)
theorem rss_pss {t : TS} (h : PSs X rest t) : RSs X C rest (tPlain t) := by
  refine ⟨fun b _ n ys L c fs K J gd lv s σ H ip D g hn k hI ht => ?_⟩
  obtain ⟨pt, hT, hdj, I, hsz⟩ := hI
  refine sb_wrap (b.under n) ?_
  rw [g.over]
  exact GenW.wpAny_gsz hsz (wpAny_mono (h.run _ s σ H (D.at ys) I ht) (fun f s' hs hz => k n ys L s' f hn (rsp_of hT hdj hz hs)) fun x s' hx => (g.nox x s' hx).elim)
theorem rss_nil : RSs X C [] tG0 := by
  refine ⟨fun b _ n ys L c fs K J gd lv s σ H ip D g hn k hI ht => ?_⟩
  exact k n ys L s .next hn ⟨σ, H, hI, ht⟩
theorem rss_cons {t u : TGn} (a : RS X C st t) (b : RSs X C rest u) : RSs X C (st :: rest) (tGThen t u) := by
  refine ⟨fun bd hC n ys L c fs K J gd lv s σ H ip D g hn k hI ht => ?_⟩
  rw [execs_cons_wrap]
  refine a.run bd hC n ys L c fs _ J gd lv s σ H ip { D with nx := fun ys' σ' H' => u D ys' σ' H' } g hn (fun n' ys' L' s' f hn' hs => ?_) hI ht
  cases f with
  | next =>
    obtain ⟨σ', H', I', q⟩ := hs
    exact b.run bd hC n' ys' L' c fs K J gd lv s' σ' H' ip D g hn' k I' q
  | brk => exact k n' ys' L' s' .brk hn' hs
  | cont => exact k n' ys' L' s' .cont hn' hs
  | ret v => exact k n' ys' L' s' (.ret v) hn' hs
theorem rss_one {t : TGn} (a : RS X C st t) : RSs X C [st] (tGThen t tG0) := rss_cons a rss_nil

/-! ### if -/
def tGIf (tc : TT) (t u : TGn) : TGn := fun D ys σ H => tc σ H fun b H1 => if b = true then t D ys σ H1 else u D ys σ H1
theorem rs_if {test : Expr} {a b : List Stmt} {pos : Pos} {tc : TT} {t u : TGn} (hc : PT X test tc) (ha : RSs X C a t) (hb : RSs X C b u) : RS X C (.If test a b pos) (tGIf tc t u) := by
  refine ⟨fun bd hC n ys L c fs K J gd lv s σ H ip D g hn k hI ht => ?_⟩
  obtain ⟨pt, hT, hdj, I, hsz⟩ := hI
  rw [exec_If]
  refine sb_bind_wrap (bd.under n) (wpAny_standAt ?_)
  refine sb_bind_wrap (bd.under n) ?_
  rw [g.over]
  refine GenW.wpAny_gsz hsz (wpAny_mono (hc.run _ s σ H _ I ht) (fun d s1 hs hz => ?_) fun x s' hx => (g.nox x s' hx).elim)
  obtain ⟨H1, I1, q1⟩ := hs
  cases d with
  | true => exact ha.run bd hC n ys L c fs K J gd lv s1 σ H1 ip D g hn k ⟨pt, hT, hdj, I1, hz⟩ q1
  | false => exact hb.run bd hC n ys L c fs K J gd lv s1 σ H1 ip D g hn k ⟨pt, hT, hdj, I1, hz⟩ q1

/-! ### for -/
def tGFor (wi : TI) (g : TG) (tb : TGn) : TGn := fun D ys σ H => wi σ H fun J H1 => ∃ W : Nat → Nat → List V → L2.St → Hp → Prop, (∃ m, W 0 m ys σ H1) ∧ ∀ i m ys σ H, W i m ys σ H →
  (J.stop i H ∧ D.nx ys σ H) ∨ (J.go i H ∧ ∃ N : List V → L2.St → Hp → Prop, (∀ ys' σ' H', N ys' σ' H' → ∃ m', m' < m ∧ W (i + 1) m' ys' σ' H') ∧ ∀ x H', J.yld i H x H' → g x σ H' fun σ2 H2 => tb { D with nx := N, ct := N, bk := D.nx } ys σ2 H2)
theorem rc_loop {b : Bed X.prog X.w Φ} {c c' : Code} {fs : List Frame} {gd gd' : Bool → Bool} {k : Result → Sem PySem.Fin} {l kp : List Value} {p : Pos} (g : RC X b c fs gd) (hw : c'.weight = 0) (hu : c'.cUnits = 0) (hgd : gd' false = false) :
    RC X b c' (.ret k none (gd false) l c p kp :: fs) gd' where
  over := (GenW.over_loop hw hu).trans g.over
  split := by
    show (splitAtGen fs).map _ = none
    rw [g.split]; rfl
  guard := by
    show (gd false || fs.any Frame.guarded) = false
    rw [g.gd, g.guard]; rfl
  gd := hgd
  nox := g.nox
theorem rs_for {tg iter : Expr} {body : List Stmt} {wi : TI} {g : TG} {tb : TGn} {pos : Pos} (hc : X.calm = true) (hi : PI X tg iter wi) (hg : PG X tg g) (hb : RSs X C body tb) (hs : ∀ x, foldedSetIterable iter X.env x = pure x := by intro _; rfl) :
    RS X C (.For tg iter body [] pos) (tGFor wi g tb) := by
  refine ⟨fun bd hC n ys L c fs K J gd lv s σ H ip D gc hn k hI ht => ?_⟩
  obtain ⟨pt, hT, hdj, I, hsz⟩ := hI
  rw [exec_For]
  refine sb_bind_wrap (bd.under n) (wpAny_standAt ?_)
  refine sb_bind_wrap (bd.under n) ?_
  rw [gc.over]
  refine GenW.wpAny_gsz hsz (wpAny_mono (hi.run _ s σ H _ I ht) (fun v s1 h1 hz1 => ?_) fun x s' hx => (gc.nox x s' hx).elim)
  refine sb_bind_wrap (bd.under n) (wpAny_of_eq (hs v) ?_)
  refine sb_bind_wrap (bd.under n) (wpAny_standAt ?_)
  refine sb_bind_wrap (bd.under n) (wpAny_holding ?_)
  rw [gc.over]
  refine GenW.wpAny_gsz hz1 (wpAny_mono h1 (fun itv s2 h2 hz2 => ?_) fun x s' hx => (gc.nox x s' hx).elim)
  obtain ⟨it, fp, tn, JJ, H2, rfl, I2, T, st2, f2, W, ⟨m0, w0⟩, turn⟩ := h2
  unfold runOwn
  rw [Sem.onRaise_eq_wrap, Sem.wrap_wrap]
  refine sb_call fun p => ?_
  -- the iterator's objects: no frame's, no pin's
  have hfix : ∀ b ∈ fp, b ≠ X.env.locals ∧ b ∉ X.fs ∧ (b ∈ X.ex ∨ X.s_0.heap.objs.size ≤ b) ∧ (∀ x c, X.env.cells.lookup x = some c → c ≠ b) ∧ ∀ q ∈ X.pn ++ ip, q.1 ≠ b := fun b hb => by
    obtain ⟨_, h1, h2, h3, h4, h5⟩ := f2 b hb
    refine ⟨h1, h2, h3, h4, fun q hq => ?_⟩
    rcases List.mem_append.mp hq with z | z
    · exact h5 q (List.mem_append_left _ z)
    · exact h5 q (List.mem_append_right _ (List.mem_append_right _ z))
  have gl := fun (kk : Result → Sem PySem.Fin) (gd' : Bool → Bool) (hgd : gd' false = false) => rc_loop (k := kk) (c' := .forLoop tg (.ref it) body [] X.env) (l := lv []) (kp := []) (p := p) gc rfl rfl hgd
  -- where a turn begins
  let At : Nat → Nat → List V → Lean' → Shared → Prop := fun i m ys L s => ∃ (pt : List (Addr × Obj)) (σ : L2.St) (H : Hp), bd.TP ys L pt ∧ (∀ q ∈ pt, ∀ r ∈ X.pn ++ ip, q.1 ≠ r.1) ∧ (∀ q ∈ pt, ∀ b ∈ fp, q.1 ≠ b) ∧ Inv X (pt ++ ip) σ H s ∧ bd.num ≤ s.gens.size ∧ tn i s.heap ∧ (∀ b ∈ fp, H b = none) ∧ W i m ys σ H
  have loop : ∀ (kk : Result → Sem PySem.Fin), (∀ f, kk (.ok f) = K f) → ∀ (m n : Nat) (ys : List V) (L : Lean') (s : Shared) (i : Nat), n + ys.length = bd.N → At i m ys L s →
      SB X.prog X.w Φ (bd.Bn n) L s (.forLoop tg (.ref it) body [] X.env) (den (.forLoop tg (.ref it) body [] X.env))
        (.ret kk none (gd false) (lv []) c p [] :: fs) := by
    intro kk hkk m
    induction m using Nat.strongRecOn with
    | ind m ih =>
      intro n ys L s i hn ⟨pt, σ, H, hT, hdj, hdf, I, hsz, st, fr, w3⟩
      have stat : ∀ {H' : Hp}, (∀ b ∈ fp, H' b = none) → ∀ b ∈ fp, FpOk X (pt ++ ip) H' b := fun hn b hb => by
        obtain ⟨h1, h2, h3, h4, h5⟩ := hfix b hb
        refine ⟨hn b hb, h1, h2, h3, h4, fun q hq => ?_⟩
        rcases List.mem_append.mp hq with z | z
        · exact h5 q (List.mem_append_left _ z)
        · rcases List.mem_append.mp z with z | z
          · exact hdf q z b hb
          · exact h5 q (List.mem_append_right _ z)
      show SB X.prog X.w Φ (bd.Bn n) L s _ ((forTurn tg (.ref it) body [] X.env).onRaise (fun x => do noteFrame x X.env; theTreesLotGoes x)) _
      rw [Sem.onRaise_eq_wrap]
      unfold forTurn
      refine sb_bind_wrap (bd.under n) (wpAny_standAt ?_)
      have hov : ∀ kk : Result → Sem PySem.Fin, bd.AB.over (.forLoop tg (.ref it) body [] X.env) (.ret kk none (gd false) (lv []) c p [] :: fs) = X.A := fun kk => (gl kk id rfl).over
      refine sb_bind_wrap (bd.under n) (wpAny_onRaise ?_)
      rw [hov]
      rcases turn i m ys σ H w3 with ⟨stop, qn⟩ | ⟨go, N, hN, step⟩
      · refine GenW.wpAny_gsz hsz (wpAny_mono (T.done X rfl rfl rfl hc i _ s σ H (fun _ _ => False) I (stat fr) st stop) (fun r s4 hr hz => ?_) fun x s' hx => hx.elim)
        obtain ⟨rfl, I4⟩ := hr
        refine sb_again rfl ?_
        have eb : den (.block [] X.env) = (den (.block [] X.env)).wrap .pure .raise id id := (wrap_id _).symm
        rw [eb]
        refine sb_wrap (bd.under n) ?_
        show wpAny _ _ (do return PySem.Fin.done (← (execs [] X.env).onRaise (fun x => do noteFrame x X.env; theTreesLotGoes x))) _ _ s4
        refine wpAny_bind (wpAny_onRaise (wpAny_execs_nil (wpAny_pure ?_)))
        exact sb_leaf (.ok .next) (by rw [hkk]; exact k n ys L s4 .next hn ⟨σ, H, ⟨pt, hT, hdj, I4, hz⟩, qn⟩)
      · refine GenW.wpAny_gsz hsz (wpAny_mono (T.item X rfl rfl rfl hc i _ s σ H (fun _ _ => False) I (stat fr) st go) (fun r s4 hr hz => ?_) fun x s' hx => hx.elim)
        obtain ⟨u, rfl, h4⟩ := hr
        refine sb_bind_wrap (bd.under n) ?_
        rw [hov]
        refine GenW.wpAny_gsz hz (wpAny_mono h4 (fun _ s5 h5 hz5 => ?_) fun x s' hx => hx.elim)
        obtain ⟨x, H5, I5, r5, y5, st5, fr5⟩ := h5
        have I5' := I5.pinned (stat fr5) (T.obj _ _ st5)
        rw [List.append_assoc] at I5'
        refine sb_bind_wrap (bd.under n) ?_
        rw [hov]
        refine GenW.wpAny_gsz hz5 (wpAny_mono (hg.run _ s5 σ H5 x u _ I5' r5 (step x H5 y5)) (fun _ s6 h6 hz6 => ?_) fun x s' hx => (gc.nox x s' hx).elim)
        obtain ⟨σ6, H6, I6, q6⟩ := h6
        rw [Sem.bind_eq_wrap', Sem.wrap_wrap]
        have dj : ∀ (pt' : List (Addr × Obj)), (∀ q ∈ pt', ∀ r ∈ X.pn ++ (ip ++ pinsAt fp s5.heap), q.1 ≠ r.1) → (∀ q ∈ pt', ∀ r ∈ X.pn ++ ip, q.1 ≠ r.1) ∧ ∀ q ∈ pt', ∀ b ∈ fp, q.1 ≠ b := fun pt' h => by
          refine ⟨fun q hq r hr => ?_, fun q hq b hb => ?_⟩
          · rcases List.mem_append.mp hr with z | z
            · exact h q hq r (List.mem_append_left _ z)
            · exact h q hq r (List.mem_append_right _ (List.mem_append_left _ z))
          · obtain ⟨o, e, _⟩ := T.obj _ _ st5 b hb
            exact h q hq (b, o) (List.mem_append_right _ (List.mem_append_right _ (mem_pinsAt hb e)))
        refine hb.run bd hC n ys L _ _ _ _ _ _ s6 σ6 H6 (ip ++ pinsAt fp s5.heap) { D with nx := N, ct := N, bk := D.nx } (gl _ _ rfl) hn (fun n' ys' L' s7 f hn' hs7 => ?_) ⟨pt, hT, fun q hq r hr => ?_, I6, hz6⟩ q6
        · have again : ∀ {σ7 : L2.St} {H7 : Hp}, RI X bd (ip ++ pinsAt fp s5.heap) ys' L' σ7 H7 s7 → N ys' σ7 H7 → ∃ m', m' < m ∧ At (i + 1) m' ys' L' s7 := fun {σ7 H7} hI7 n7 => by
            obtain ⟨pt7, hT7, hd7, I7, hz7⟩ := hI7
            obtain ⟨m', hm, w7⟩ := hN ys' σ7 H7 n7
            obtain ⟨d1, d2⟩ := dj pt7 hd7
            rw [← List.append_assoc] at I7
            refine ⟨m', hm, pt7, σ7, H7, hT7, d1, d2, I7.unpinned, hz7, T.keep _ _ _ st5 fun b hb o e => (I7.pin (b, o) (List.mem_append_right _ (List.mem_append_right _ (mem_pinsAt hb e)))).1, fun b hb => ?_, w7⟩
            obtain ⟨o, e, d⟩ := T.obj _ _ st5 b hb
            exact (I7.pin (b, o) (List.mem_append_right _ (List.mem_append_right _ (mem_pinsAt hb e)))).2.1
          have less : ∀ {σ7 : L2.St} {H7 : Hp}, RI X bd (ip ++ pinsAt fp s5.heap) ys' L' σ7 H7 s7 → RI X bd ip ys' L' σ7 H7 s7 := fun {σ7 H7} hI7 => by
            obtain ⟨pt7, hT7, hd7, I7, hz7⟩ := hI7
            rw [← List.append_assoc] at I7
            exact ⟨pt7, hT7, (dj pt7 hd7).1, I7.unpinned, hz7⟩
          cases f with
          | next =>
            obtain ⟨σ7, H7, I7, n7⟩ := hs7
            obtain ⟨m', hm, a7⟩ := again I7 n7
            exact sb_again rfl (ih m' hm n' ys' L' s7 (i + 1) hn' a7)
          | cont =>
            obtain ⟨σ7, H7, I7, n7⟩ := hs7
            obtain ⟨m', hm, a7⟩ := again I7 n7
            exact sb_again rfl (ih m' hm n' ys' L' s7 (i + 1) hn' a7)
          | brk =>
            obtain ⟨σ7, H7, I7, q7⟩ := hs7
            exact sb_leaf (.ok .next) (by rw [hkk]; exact k n' ys' L' s7 .next hn' ⟨σ7, H7, less I7, q7⟩)
          | ret v =>
            obtain ⟨x7, σ7, H7, I7, r7, q7⟩ := hs7
            exact sb_leaf (.ok (.ret v)) (by rw [hkk]; exact k n' ys' L' s7 (.ret v) hn' ⟨x7, σ7, H7, less I7, r7, q7⟩)
        · rcases List.mem_append.mp hr with z | z
          · exact hdj q hq r (List.mem_append_left _ z)
          · rcases List.mem_append.mp z with z | z
            · exact hdj q hq r (List.mem_append_right _ z)
            · obtain ⟨b, hb, e⟩ := List.mem_filterMap.mp z
              cases ho : s5.heap.get? b with
              | none => rw [ho] at e; cases e
              | some o =>
                rw [ho] at e
                simp only [Option.map_some, Option.some.injEq] at e
                subst e
                exact hdf q hq b hb
  refine loop _ (fun f => rfl) m0 n ys L s2 0 hn ⟨pt, σ, H2, hT, hdj, fun q hq b hb => ?_, I2, hz2, st2, fun b hb => (f2 b hb).1, w0⟩
  exact (f2 b hb).2.2.2.2.2 q (List.mem_append_right _ (List.mem_append_left _ hq))
end
end Ra
-- RaG
set_option autoImplicit true
set_option maxRecDepth 512
set_option Elab.async false
set_option linter.all false
set_option maxRecDepth 100000
set_option maxHeartbeats 1000000
/-! RaG: a generator's body: yield, yield from a generator. -/
namespace Ra
open PySem PySem.Spec PyProof.Rows L2

/-- what the consumer keeps by what is out -/
abbrev Tie := List V → List (Addr × Obj) → Prop
structure TieOk (Ls : List Addr) (T : Tie) : Prop where
  cover : ∀ ys pc, T ys pc → ∀ S ∈ Ls, ∃ o, (S, o) ∈ pc
  sub : ∀ ys pc, T ys pc → ∀ q ∈ pc, q.1 ∈ Ls
  plain : ∀ ys pc, T ys pc → ∀ q ∈ pc, ∀ v, q.2.data ≠ .cell v
/-- a generator's own object, awake -/
def GO (g : Nat) (o : Obj) : Prop := ∃ nm qn, o.cls = .type "generator" ∧ o.data = .fields #[.int g 0, nm, qn] ∧ slotN o = 0
/-- while it sleeps -/
structure Woke (Ls : List Addr) (T : Tie) (a : Addr) (g : Nat) (ys : List V) (x : V) (L : Lean') (s : Shared) (L2 : Lean') (s2 : Shared) : Prop where
  os : s2.os = s.os
  bare : AllBare s2.gens
  keep : ∀ b o, b ≠ a → b ∉ Ls → s.heap.get? b = some o → s2.heap.get? b = some o
  gen : IsGW s2.heap a g 0
  run : s2.gens[g]? = some .running
  later : ∀ i x, g < i → s.gens[i]? = some x → s2.gens[i]? = some x
  size : s.gens.size ≤ s2.gens.size
  lean : ∀ i b, L2 i b → L i b
  tie : ∀ pc, T ys pc → (∀ q ∈ pc, s.heap.get? q.1 = some q.2) → ∃ pc', T (ys ++ [x]) pc' ∧ ∀ q ∈ pc', s2.heap.get? q.1 = some q.2
section
variable (P : Program) (w : World)
/-- an item is handed out -/
def GP (outer : List Env) (H : Hp) (sc : Shared) (Ls : List Addr) (T : Tie) (Dy : List V → Hp → Prop) (a : Addr) (g N : Nat) (L0 : Lean') : Nat → FProt := fun n v L s κ =>
  ∃ (ys : List V) (x : V) (H1 : Hp) (pc pl : List (Addr × Obj)), n + 1 + ys.length = N ∧ RelV x v ∧ s.os = sc.os ∧ AllBare s.gens ∧ s.heap.NoLimit ∧ IsGW s.heap a g 0 ∧ g < s.gens.size ∧ Un (frs outer) Ls H H1 sc.heap s.heap ∧ HOk P w H1 s.heap ∧ H1 a = none ∧
    T ys pc ∧ (∀ q ∈ pc, s.heap.get? q.1 = some q.2 ∧ H1 q.1 = none) ∧ Dy (ys ++ [x]) H1 ∧ (∀ i b, L i b → L0 i b ∨ ∃ o, (b, o) ∈ pl) ∧
    (∀ q ∈ pl, s.heap.get? q.1 = some q.2 ∧ q.2.genNumber?.isSome = true ∧ H1 q.1 = none ∧ a < q.1) ∧ ∀ L2 s2, Woke Ls T a g ys x L s L2 s2 → κ L2 s2
/-- it has come to its end -/
def GF (outer : List Env) (H : Hp) (sc : Shared) (Ls : List Addr) (T : Tie) (Q : List V → Hp → Prop) (a : Addr) (g N : Nat) (L0 : Lean') : Nat → Lean' → Shared → Prop := fun n L s =>
  ∃ (ys : List V) (H1 : Hp) (pc : List (Addr × Obj)), n + ys.length = N ∧ s.os = sc.os ∧ AllBare s.gens ∧ IsGW s.heap a g 0 ∧ g < s.gens.size ∧ Un (frs outer) Ls H H1 sc.heap s.heap ∧ HOk P w H1 s.heap ∧ H1 a = none ∧
    T ys pc ∧ (∀ q ∈ pc, s.heap.get? q.1 = some q.2 ∧ H1 q.1 = none) ∧ (∀ i b, L i b → L0 i b) ∧ Q ys H1
end
/-- the bed of a generator's body -/
def gbed (X : Cx) (Φ : Outcome → Shared → Prop) (A : Around) (R : FEnd) (Dy : List V → Hp → Prop) (a : Addr) (g : Nat) (Ls : List Addr) (T : Tie) (N : Nat) (L0 : Lean') (hT : TieOk Ls T) : Bed X.prog X.w Φ where
  AB := A
  Bn := GB X.prog X.w Φ g A R (GP X.prog X.w X.outer X.H_0 X.s_0 Ls T Dy a g N L0)
  under := fun n => gb_under n
  N := N
  num := g + 1
  Ch := a :: Ls
  TP := fun ys L pt => ∃ pc oa, T ys pc ∧ GO g oa ∧ pt = (a, oa) :: pc ∧ ∀ i b, L i b → L0 i b
  cover := fun ys L pt ⟨pc, oa, h1, _, e, _⟩ S hS => by
    subst e
    rcases List.mem_cons.mp hS with z | z
    · exact ⟨oa, by rw [z]; exact List.mem_cons_self⟩
    · obtain ⟨o, ho⟩ := hT.cover ys pc h1 S z
      exact ⟨o, List.mem_cons_of_mem _ ho⟩
/-- M at most are handed out, Dy holds of what is out -/
def GBed (X : Cx) (Φ : Outcome → Shared → Prop) (M : Nat) (Dy : List V → Hp → Prop) (b : Bed X.prog X.w Φ) : Prop :=
  ∃ (A : Around) (R : FEnd) (a : Addr) (g : Nat) (Ls : List Addr) (T : Tie) (N : Nat) (L0 : Lean') (hT : TieOk Ls T), b = gbed X Φ A R Dy a g Ls T N L0 hT ∧ M ≤ N ∧ X.ex = Ls ∧ a ∉ Ls ∧ X.s_0.heap.objs.size ≤ a ∧ a ≠ X.env.locals ∧ a ∉ X.fs ∧
    (∀ x c, X.env.cells.lookup x = some c → c ≠ a) ∧ X.base.get? a = none ∧ ∀ S ∈ Ls, S ≠ X.env.locals ∧ S ∉ X.fs ∧ (∀ x c, X.env.cells.lookup x = some c → c ≠ S) ∧ X.base.get? S = none

section
variable {X : Cx} {Φ : Outcome → Shared → Prop} {M : Nat} {Dy : List V → Hp → Prop}
/-- what a sleeper's frame needs -/
structure Off (X : Cx) (ch : List Addr) : Prop where
  all : ∀ b ∈ ch, (b ∈ X.ex ∨ X.s_0.heap.objs.size ≤ b) ∧ b ≠ X.env.locals ∧ b ∉ X.fs ∧ (∀ x c, X.env.cells.lookup x = some c → c ≠ b) ∧ X.base.get? b = none
theorem GBed.off {b : Bed X.prog X.w Φ} (h : GBed X Φ M Dy b) : Off X b.Ch := by
  obtain ⟨A, R, a, g, Ls, T, N, L0, hT, rfl, hM, hex, haL, h1, h2, h3, h4, h5, h6⟩ := h
  refine ⟨fun c hc => ?_⟩
  rcases List.mem_cons.mp hc with z | z
  · rw [z]; exact ⟨.inr h1, h2, h3, h4, h5⟩
  · obtain ⟨q1, q2, q3, q4⟩ := h6 c z
    exact ⟨.inl (by rw [hex]; exact z), q1, q2, q3, q4⟩
/-- woken: all that is not the consumer's is as it was -/
theorem inv_kept {ch : List Addr} {ip : List (Addr × Obj)} {σ : L2.St} {H : Hp} {s s' : Shared} (ho : Off X ch) (hd : ∀ r ∈ X.pn ++ ip, r.1 ∉ ch) (hH : ∀ b ∈ ch, H b = none) (I : Inv X ip σ H s) (os : s'.os = s.os) (hb : AllBare s'.gens)
    (k : ∀ b o, b ∉ ch → s.heap.get? b = some o → s'.heap.get? b = some o) : Inv X ip σ H s' := by
  obtain ⟨hh, g, d, t, o⟩ := s'
  have e : o = s.os := os
  subst e
  have nt : ∀ b u, H b = some u → b ∉ ch := fun b u q hb => by rw [hH b hb] at q; cases q
  refine I.step (g' := g) (t' := t) (d' := d) (ch := ch) (fun b hb => ?_) (fun b ob _ _ hc q _ => k b ob hc q) (fun b ob _ _ hc q _ => ⟨ob.slots, k b ob hc q⟩) (fun _ _ _ _ n => n) (fun b ob hc q => ⟨ob, k b ob hc q⟩)
    (fun _ _ q => q) (fun _ _ _ q => q) (fun b ps q => ⟨#[], by rw [q]; simp⟩) (fun m hm => ?_) (fun b u q => ?_) hb
  · obtain ⟨q1, q2, _, q3, _⟩ := ho.all b hb
    exact ⟨q1, q2, q3, fun p hp z => hd p hp (by rw [z]; exact hb)⟩
  · obtain ⟨ob, es, ep, hob, r⟩ := hm
    exact ⟨ob, es, ep, k _ ob (fun z => (ho.all _ z).2.1 rfl) hob, r⟩
  · refine (I.hok b u q).stay (fun c v hc y => k c v ?_ y) (fun _ y => y) fun _ _ y => y
    rcases hc with y | y
    · rw [y]; exact nt b u q
    · exact nt c _ y
/-- the pins may be chosen anew -/
theorem inv_pins {pins : List (Addr × Obj)} {ip : List (Addr × Obj)} {σ : L2.St} {H : Hp} {s : Shared} (I : Inv X ip σ H s) (h : ∀ p ∈ pins, s.heap.get? p.1 = some p.2 ∧ H p.1 = none ∧ p.1 ≠ X.env.locals ∧ p.1 ∉ X.fs ∧ ∀ v, p.2.data ≠ .cell v) : Inv X (pins ++ ip) σ H s :=
  I.pins_of fun p hp => by
    rcases List.mem_append.mp hp with z | z
    · exact h p z
    · exact I.pin p (List.mem_append_right _ z)
theorem inv_less {pins ip : List (Addr × Obj)} {σ : L2.St} {H : Hp} {s : Shared} (I : Inv X (pins ++ ip) σ H s) : Inv X ip σ H s := I.pins_of fun p hp => I.pin p (List.mem_append_right _ (List.mem_append_right _ hp))
theorem GO.data {g : Nat} {o : Obj} (h : GO g o) : ∀ v, o.data ≠ .cell v := fun v q => by obtain ⟨nm, qn, _, hd, _⟩ := h; rw [hd] at q; cases q
theorem IsGW.go {h : Heap} {a : Addr} {g : Nat} (x : IsGW h a g 0) : ∃ o, h.get? a = some o ∧ GO g o := let ⟨o, nm, qn, ho, r⟩ := x; ⟨o, ho, nm, qn, r⟩
theorem GO.is {h : Heap} {a : Addr} {g : Nat} {o : Obj} (x : GO g o) (e : h.get? a = some o) : IsGW h a g 0 := let ⟨nm, qn, r⟩ := x; ⟨o, nm, qn, e, r⟩

/-! ### yield -/
/-- what is handed out is promised; M at most -/
def tGY (te : TE) (M : Nat) (Dy : List V → Hp → Prop) : TGn := fun D ys σ H => ys.length < M ∧ te σ H fun x H1 => Dy (ys ++ [x]) H1 ∧ D.nx (ys ++ [x]) σ H1
theorem rs_yield {e : Expr} {yp pos : Pos} {te : TE} (he : PE X e te) (hco : X.env.scope.isCoroutine = false := by rfl) (hi : interactive X.env = false := by rfl) : RS X (GBed X Φ M Dy) (.Expr (.Yield (some e) yp) pos) (tGY te M Dy) := by
  refine ⟨fun bd hC n ys L c fs K J gd lv s σ H ip D g hn k hI ht => ?_⟩
  have hoff := hC.off
  obtain ⟨A, R, a, gn, Ls, T, N, L0, hT, rfl, hM, hex, haL, ha1, ha2, ha3, ha4, ha5, hLs⟩ := hC
  obtain ⟨pt, ⟨pc, oa, hTy, hgo, rfl, hL⟩, hdj, I, hsz⟩ := hI
  obtain ⟨hlt, ht⟩ := ht
  have hNN : n + ys.length = N := hn
  obtain ⟨n, rfl⟩ : ∃ m, n = m + 1 := ⟨n - 1, by omega⟩
  rw [exec_Expr X.env _ pos hi rfl]
  show SB X.prog X.w Φ (GB X.prog X.w Φ gn A R _ (n + 1)) L s c (.at pos fun _ => ((eval e X.env >>= fun v => (standAt yp >>= fun _ => yieldOut X.env v)) >>= fun x => dropValue (.Yield (some e) yp) pos x).wrap K J gd lv) fs
  have hy : ∀ v, yieldOut X.env v = yieldValue v := fun v => by simp only [yieldOut, hco, Bool.false_eq_true, if_false]
  simp only [hy]
  refine sb_at ?_
  rw [Sem.bind_eq_wrap', Sem.bind_eq_wrap', Sem.wrap_wrap, Sem.wrap_wrap]
  refine sb_wrap (gb_under (n + 1)) ?_
  have hov : A.over c fs = X.A := g.over
  rw [hov]
  refine GenW.wpAny_gsz hsz (wpAny_mono (he.run _ s σ H _ I ht) (fun v s1 hv hz => ?_) fun x s' hx => (g.nox x s' hx).elim)
  obtain ⟨x, H1, I1, rv, hD, q⟩ := hv
  refine sb_at ?_
  have hgd : gd false = false := g.gd
  show SB X.prog X.w Φ (GB X.prog X.w Φ gn A R _ (n + 1)) L s1 c (.yield v (gd false) _ _) fs
  rw [hgd, ← fseg_eq]
  refine fseg_yield g.split g.guard ?_
  have pinv : ∀ p ∈ (a, oa) :: pc, s1.heap.get? p.1 = some p.2 ∧ H1 p.1 = none := fun p hp => by
    obtain ⟨q1, q2, _⟩ := I1.pin p (List.mem_append_right _ (List.mem_append_left _ hp))
    exact ⟨q1, q2⟩
  refine ⟨ys, x, H1, pc, [], hNN, rv, I1.os, I1.bare, I1.nolimit, hgo.is (pinv _ List.mem_cons_self).1, hz, by rw [← hex]; exact I1.base, I1.hok, (pinv _ List.mem_cons_self).2, hTy, fun q hq => pinv q (List.mem_cons_of_mem _ hq), hD, fun i b z => .inl (hL i b z), fun q hq => (nomatch hq), fun L2 s2 W => ?_⟩
  obtain ⟨pc', hT', hp'⟩ := W.tie pc hTy fun q hq => (pinv q (List.mem_cons_of_mem _ hq)).1
  obtain ⟨oa', hoa', hgo'⟩ := W.gen.go
  have hch : ∀ b, b ∈ a :: Ls → H1 b = none := fun b hb => by
    obtain ⟨o, ho⟩ := (gbed X Φ A R Dy a gn Ls T N L0 hT).cover ys L _ ⟨pc, oa, hTy, hgo, rfl, hL⟩ b hb
    exact (pinv _ ho).2
  have hdj' : ∀ r ∈ X.pn ++ ip, r.1 ∉ a :: Ls := fun r hr hb => by
    obtain ⟨o, ho⟩ := (gbed X Φ A R Dy a gn Ls T N L0 hT).cover ys L _ ⟨pc, oa, hTy, hgo, rfl, hL⟩ r.1 hb
    exact hdj _ ho r hr rfl
  have I2 : Inv X ip σ H1 s2 := inv_kept hoff hdj' hch (inv_less I1) W.os W.bare fun b o hb e => W.keep b o (fun z => hb (by rw [z]; exact List.mem_cons_self)) (fun z => hb (List.mem_cons_of_mem _ z)) e
  have hin : ∀ q ∈ (a, oa') :: pc', q.1 ∈ a :: Ls := fun q hq => by
    rcases List.mem_cons.mp hq with z | z
    · rw [z]; exact List.mem_cons_self
    · exact List.mem_cons_of_mem _ (hT.sub _ _ hT' q z)
  have I3 : Inv X (((a, oa') :: pc') ++ ip) σ H1 s2 := inv_pins I2 fun q hq => by
    obtain ⟨_, q2, q3, _, _⟩ := hoff.all q.1 (hin q hq)
    refine ⟨?_, hch _ (hin q hq), q2, q3, ?_⟩
    · rcases List.mem_cons.mp hq with z | z
      · rw [z]; exact hoa'
      · exact hp' q z
    · rcases List.mem_cons.mp hq with z | z
      · rw [z]; exact hgo'.data
      · exact hT.plain _ _ hT' q z
  rw [fseg_eq]
  refine k n (ys ++ [x]) L2 s2 .next ?_ ⟨σ, H1, ⟨(a, oa') :: pc', ⟨pc', oa', hT', hgo', rfl, fun i b z => hL i b (W.lean i b z)⟩, fun q hq r hr => fun z => hdj' r hr (by rw [← z]; exact hin q hq), I3, ?_⟩, q⟩
  · show n + (ys ++ [x]).length = N
    rw [List.length_append, List.length_singleton]; omega
  · exact Nat.le_trans hz W.size
end
end Ra
-- RaH
set_option autoImplicit true
set_option maxRecDepth 512
set_option Elab.async false
set_option linter.all false
set_option maxRecDepth 100000
set_option maxHeartbeats 2000000
/-! RaH: yield from a generator. -/
namespace Ra
open PySem PySem.Spec PyProof.Rows L2

theorem close_gen : typeLookup (.type "generator") "close" = pure (some (.builtin "generator.close")) := by rw [typeLookup_type, builtinLookup_eq_fast]; kernel_rfl
/-- a generator that has not begun: M items at most, Dy of what is out at each, Q at the end -/
def GMk (P : Program) (w : World) (Φ : Outcome → Shared → Prop) (base : Heap) (k : Nat) (outer : List Env) (H : Hp) (sc : Shared) (M : Nat) (Dy Q : List V → Hp → Prop) (u : Value) (s' : Shared) : Prop :=
  ∃ (a : Addr) (g : Nat) (c : Code), u = .ref a ∧ sc.heap.objs.size ≤ a ∧ a < s'.heap.objs.size ∧ s'.heap.IsGen a g ∧ sc.gens.size ≤ g ∧ s'.gens[g]? = some (.fresh c) ∧ s'.os = sc.os ∧ AllBare s'.gens ∧ s'.heap.NoLimit ∧ (∀ b o, sc.heap.get? b = some o → s'.heap.get? b = some o) ∧
    ∀ (A : Around) (Ls : List Addr) (T : Tie) (N : Nat) (L0 L : Lean') (s2 : Shared) (pc : List (Addr × Obj)), Room k A → A.frames = some outer → TieOk Ls T → M ≤ N → (∀ i b, L i b → L0 i b) →
      (∀ S ∈ Ls, H S = none ∧ base.get? S = none ∧ S ∉ frs outer ∧ (S < sc.heap.objs.size ∨ s'.heap.objs.size ≤ S)) → (∀ b o, b ∉ Ls → s'.heap.get? b = some o → s2.heap.get? b = some o) → s2.os = sc.os → AllBare s2.gens → g < s2.gens.size →
      T [] pc → (∀ q ∈ pc, s2.heap.get? q.1 = some q.2) → FSeg P w Φ g A (endF (GF P w outer H sc Ls T Q a g N L0)) (GP P w outer H sc Ls T Dy a g N L0) N L s2 c (den c) []
abbrev TMk := L2.St → Hp → Nat → (List V → Hp → Prop) → (List V → Hp → Prop) → Prop
/-- an expression whose value is such a generator -/
structure PMk (X : Cx) (Φ : Outcome → Shared → Prop) (k : Nat) (e : Expr) (tg : TMk) : Prop where
  run : ∀ (pins : List (Addr × Obj)) (s : Shared) (σ : L2.St) (H : Hp) (M : Nat) (Dy Q : List V → Hp → Prop), Inv X pins σ H s → tg σ H M Dy Q → wpAny (model X.prog X.w) X.A (eval e X.env)
    (fun u s' => ∃ H1 sc, Inv X pins σ H1 sc ∧ s.gens.size ≤ sc.gens.size ∧ GMk X.prog X.w Φ X.base k X.stack H1 sc M Dy Q u s') X.xe s
def tGYF (tg : TMk) (M : Nat) (Dy : List V → Hp → Prop) : TGn := fun D ys σ H => ∃ Mi, ys.length + Mi ≤ M ∧ tg σ H Mi (fun zs H1 => Dy (ys ++ zs) H1) fun zs H1 => D.nx (ys ++ zs) σ H1

/-- a record that is younger has changed -/
theorem un_young {fs ex : List Addr} {H H' : Hp} {h h1 h2 : Heap} {a : Addr} (u : Un fs ex H H' h h1) (ha : ∀ b o, h.get? b = some o → b ≠ a) (k : ∀ b o, b ≠ a → h1.get? b = some o → h2.get? b = some o) : Un fs ex H H' h h2 :=
  ⟨fun b o e n hb hx => k b o (ha b o e) (u.keep b o e n hb hx), fun b o e n hb hx => let ⟨sl, q⟩ := u.slot b o e n hb hx; ⟨sl, k b _ (ha b o e) q⟩, u.free, fun b o e hx => let ⟨o', q⟩ := u.there b o e hx; ⟨o', k b _ (ha b o e) q⟩, u.tups, u.frzs, u.tbls⟩
theorem setGen_other {s : Shared} {g i : Nat} {x : GenState} (h : i ≠ g) : (s.setGen g x).gens[i]? = s.gens[i]? := by
  show (s.gens.setIfInBounds g x)[i]? = _
  rw [Array.getElem?_setIfInBounds_ne (Ne.symm h)]
theorem setGen_size' (s : Shared) (g : Nat) (x : GenState) : (s.setGen g x).gens.size = s.gens.size := GenW.setGen_size s g x

theorem sb_bindR {P : Program} {w : World} {Φ : Outcome → Shared → Prop} {B : List Frame → Prop} {A A' : Around} {L : Lean'} {s : Shared} {c : Code} {fs : List Frame} {α : Type} {m : Sem α} {K : α → Sem PySem.Fin} (hB : Under B A) (ho : A.over c fs = A')
    (h : wpR P w Φ A' m (fun a L' s' => SB P w Φ B L' s' c (K a) fs) (fun x L' s' => SB P w Φ B L' s' c (.raise x) fs) L s) : SB P w Φ B L s c (m >>= K) fs := by
  rw [Sem.bind_eq_wrap']
  exact h B A c fs K .raise id id hB ho (fun _ _ _ q => q) fun _ _ _ q => q
theorem den_eq (P : Program) (w : World) : den = (model P w).den := rfl
theorem yf_den (X : Cx) {it : Value} : den (.builtin "proto.yield_from" ⟨[it, .bool false, .none], []⟩) = Builtin.«proto.yield_from» ⟨[it, .bool false, .none], []⟩ := (congrFun (den_eq X.prog X.w) _).trans den_yf
/-- the turn's second half -/
def yfWoken (it : Addr) (r : Resume) : Sem PySem.Fin := do
  Builtin.Generator.sleptOver (.ref it) false
  match r with
  | .send v => again (.builtin "proto.yield_from" ⟨[.ref it, .bool false, ← (match v with | .ref _ => newList [v] | _ => pure v)], []⟩)
  | .throw e => again (.builtin "proto.yield_from" ⟨[.ref it, .bool true, ← (match e with | .ref _ => newList [e] | _ => pure e)], []⟩)
theorem sb_yfGen {X : Cx} {Φ : Outcome → Shared → Prop} {B : List Frame → Prop} {A A1 : Around} {L : Lean'} {s : Shared} {fs : List Frame} {a g n : Nat} {gs : GenState} {F : Nat → Lean' → Shared → Prop} {Y : Nat → FProt} (hB : Under B A)
    (ho : A.over (.builtin "proto.yield_from" ⟨[.ref a, .bool false, .none], []⟩) fs = A1) (hh : A1.handled = none) (hl : s.heap.NoLimit) (hroom : A1.depth < recursionLimit) (hg : IsGW s.heap a g 0) (hgs : s.gens[g]? = some gs)
    (hgo : FGo X.prog X.w Φ g A1.in1 (endF F) Y n gs L (s.setGen g .running))
    (hY : ∀ m v L1 s1 gs', n = m + 1 → gs'.bare = true → Y m v L1 s1 (goOn (FSeg X.prog X.w Φ g A1.in1 (endF F) Y m) gs') →
      ∃ z, IsGW s1.heap a g z ∧ ∀ h', IsGW h' a g (z + 1) → (∀ b o, b ≠ a → s1.heap.get? b = some o → h'.get? b = some o) → h'.objs.size = s1.heap.objs.size →
        SB X.prog X.w Φ B L1 { s1.setGen g gs' with heap := h' } (.builtin "proto.yield_from" ⟨[.ref a, .bool false, .none], []⟩) (.yield v true [] (yfWoken a)) fs)
    (hF : ∀ L1 s1 h', F n L1 s1 → (∀ b o, s1.heap.get? b = some o → h'.get? b = some o) → SB X.prog X.w Φ B L1 { s1.setGen g .finished with heap := h' } (.builtin "proto.yield_from" ⟨[.ref a, .bool false, .none], []⟩) (.pure (.done (.ret .none))) fs) :
    SB X.prog X.w Φ B L s (.builtin "proto.yield_from" ⟨[.ref a, .bool false, .none], []⟩) (den (.builtin "proto.yield_from" ⟨[.ref a, .bool false, .none], []⟩)) fs := by
  rw [yf_den X]
  unfold Builtin.«proto.yield_from»
  try dsimp only
  refine sb_bind hB (wpAny_pure ?_)
  try dsimp only
  refine sb_bindR hB ho (wpR_attempt (wpR_holding ?_))
  rw [if_neg Bool.false_ne_true, if_pos (show (Value.none == Value.none) = true from rfl)]
  refine wpR_bindL (wpAny_rule ?_)
  refine wpR_bind (wpR_genNext hh hl hroom hg hgs hgo (fun m v L1 s1 gs' e hb hy => wpR_pure ?_) fun L1 s1 e h' hf hst hk => ?_)
  · obtain ⟨z, hz, hq⟩ := hY m v L1 s1 gs' e hb hy
    try dsimp only
    refine sb_bind hB (wpAny_typeOf (T := "generator") hz.typeIs ?_)
    try dsimp only
    refine sb_bind hB (wpAny_of_eq close_gen ?_)
    refine sb_bind hB (wpAny_pure ?_)
    try dsimp only
    refine sb_bind hB (wpAny_sleptW hz fun h' h1 h2 h3 => ?_)
    exact hq h' h1 h2 h3
  · obtain ⟨b, o, vs, rfl, hoa, hcls, hdat, h5⟩ := hst
    try dsimp only
    refine sb_bind hB (wpAny_endsTurn hoa hcls ?_)
    try dsimp only
    rw [if_pos rfl]
    first
      | refine sb_bind hB (wpAny_rule ?_)
      | (rw [if_neg Bool.false_ne_true]; refine sb_bind hB (wpAny_rule ?_))
      | (rw [if_neg Bool.false_ne_true]; refine sb_bind hB (wpAny_pure ?_); refine sb_bind hB (wpAny_rule ?_))
    refine sb_bind hB (wpAny_field hoa hdat h5 ?_)
    exact hF L1 s1 h' hf hk
section
variable {X : Cx} {Φ : Outcome → Shared → Prop} {M : Nat} {Dy : List V → Hp → Prop}
theorem rs_yieldFrom {k : Nat} {e : Expr} {yp pos : Pos} {tg : TMk} (he : PMk X Φ k e tg) (hr : Room (k + 2) X.A) (hi : interactive X.env = false := by rfl) : RS X (GBed X Φ M Dy) (.Expr (.YieldFrom e yp) pos) (tGYF tg M Dy) := by
  refine ⟨fun bd hC n ys L c fs K J gd lv s σ H ip D g hn kk hI ht => ?_⟩
  have hoff := hC.off
  obtain ⟨A, R, ao, go, Ls, T, N, L0, hT, rfl, hM, hex, haL, ha1, ha2, ha3, ha4, ha5, hLs⟩ := hC
  obtain ⟨pt, ⟨pc, oa, hTy, hgo, rfl, hL⟩, hdj, I, hsz⟩ := hI
  obtain ⟨Mi, hMi, ht⟩ := ht
  have hNN : n + ys.length = N := hn
  have hov : A.over c fs = X.A := g.over
  rw [exec_Expr X.env _ pos hi rfl]
  show SB X.prog X.w Φ (GB X.prog X.w Φ go A R _ n) L s c (.at pos fun _ => ((eval e X.env >>= fun v => (standAt yp >>= fun _ => yieldFrom X.env v)) >>= fun x => dropValue (.YieldFrom e yp) pos x).wrap K J gd lv) fs
  refine sb_at ?_
  rw [Sem.bind_eq_wrap' (eval e X.env >>= _) _, Sem.wrap_wrap]
  refine sb_bind_wrap (gb_under n) ?_
  rw [hov]
  refine wpAny_mono (he.run _ s σ H Mi _ _ I ht) (fun u s1 hu => ?_) fun x s' hx => (g.nox x s' hx).elim
  obtain ⟨H1, sc, Ic, hszc, ai, gi, ci, rfl, hai1, hai2, hgen, hgi1, hgi2, hos, hbare, hlim, hkeep, wake⟩ := hu
  refine sb_at ?_
  show SB X.prog X.w Φ (GB X.prog X.w Φ go A R _ n) L s1 c ((yieldFrom X.env (.ref ai)).wrap _ _ _ _) fs
  unfold yieldFrom
  refine sb_bind_wrap (gb_under n) (wpAny_typeOf (Heap.IsGen.typeIs hgen) ?_)
  rw [if_neg (by decide)]
  refine sb_bind_wrap (gb_under n) (wpAny_holding (wpAny_pyIter_gen hgen ?_))
  refine sb_call fun p => ?_
  -- what stays true of the frame
  have hgog : go < gi := Nat.lt_of_lt_of_le (Nat.lt_of_lt_of_le (Nat.lt_of_succ_le hsz) hszc) hgi1
  have pinc : ∀ q ∈ (ao, oa) :: pc, sc.heap.get? q.1 = some q.2 ∧ H1 q.1 = none := fun q hq => by
    obtain ⟨q1, q2, _⟩ := Ic.pin q (List.mem_append_right _ (List.mem_append_left _ hq))
    exact ⟨q1, q2⟩
  have cov : ∀ b ∈ ao :: Ls, ∃ o, (b, o) ∈ (ao, oa) :: pc := fun b hb => (gbed X Φ A R Dy ao go Ls T N L0 hT).cover ys L _ ⟨pc, oa, hTy, hgo, rfl, hL⟩ b hb
  have hch : ∀ b ∈ ao :: Ls, H1 b = none ∧ b < sc.heap.objs.size := fun b hb => by
    obtain ⟨o, ho⟩ := cov b hb
    obtain ⟨q1, q2⟩ := pinc _ ho
    exact ⟨q2, Heap.lt_size q1⟩
  have hdj' : ∀ r ∈ X.pn ++ ip, r.1 ∉ ao :: Ls := fun r hr hb => by
    obtain ⟨o, ho⟩ := cov r.1 hb
    exact hdj _ ho r hr rfl
  have neai : ∀ b, b < sc.heap.objs.size → b ≠ ai := fun b hb z => by rw [z] at hb; exact absurd hb (Nat.not_lt.mpr hai1)
  have Ii : Inv X ip σ H1 sc := inv_less Ic
  have exok : ∀ b ∈ ao :: Ls, (b ∈ X.ex ∨ X.s_0.heap.objs.size ≤ b) ∧ b ≠ X.env.locals ∧ (∀ x c, X.env.cells.lookup x = some c → c ≠ b) ∧ ∀ p ∈ X.pn ++ ip, p.1 ≠ b := fun b hb => by
    obtain ⟨q1, q2, _, q3, _⟩ := hoff.all b hb
    exact ⟨q1, q2, q3, fun p hp z => hdj' p hp (by rw [z]; exact hb)⟩
  have stk : ∀ b ∈ ao :: Ls, b ∉ frs X.stack := fun b hb z => by
    obtain ⟨_, q2, q3, _, _⟩ := hoff.all b hb
    rcases List.mem_cons.mp (Ic.stkSub b z) with y | y
    · exact q2 y
    · exact q3 y
  have hfr : X.A.in1.in1.frames = some X.stack := Ic.ok.frames
  let Ti : Tie := fun zs pt => ∃ pc oa, T (ys ++ zs) pc ∧ GO go oa ∧ pt = (ao, oa) :: pc
  have hTi : TieOk (ao :: Ls) Ti := by
    refine ⟨fun zs pt ⟨pc, oa, h1, _, e⟩ S hS => ?_, fun zs pt ⟨pc, oa, h1, _, e⟩ q hq => ?_, fun zs pt ⟨pc, oa, h1, h2, e⟩ q hq => ?_⟩
    · subst e
      rcases List.mem_cons.mp hS with z | z
      · exact ⟨oa, by rw [z]; exact List.mem_cons_self⟩
      · obtain ⟨o, ho⟩ := hT.cover _ pc h1 S z
        exact ⟨o, List.mem_cons_of_mem _ ho⟩
    · subst e
      rcases List.mem_cons.mp hq with z | z
      · rw [z]; exact List.mem_cons_self
      · exact List.mem_cons_of_mem _ (hT.sub _ pc h1 q z)
    · subst e
      rcases List.mem_cons.mp hq with z | z
      · rw [z]; exact h2.data
      · exact hT.plain _ pc h1 q z
  -- the inner one's runs
  let Ri : FEnd := endF (GF X.prog X.w X.stack H1 sc (ao :: Ls) Ti (fun zs H1 => D.nx (ys ++ zs) σ H1) ai gi n L0)
  let Yi : Nat → FProt := GP X.prog X.w X.stack H1 sc (ao :: Ls) Ti (fun zs H1 => Dy (ys ++ zs) H1) ai gi n L0
  have hgil : gi < s1.gens.size := (Array.getElem?_eq_some_iff.mp hgi2).1
  have hgo0 : FGo X.prog X.w Φ gi X.A.in1.in1 Ri Yi n (.fresh ci) L (s1.setGen gi .running) := by
    refine wake X.A.in1.in1 (ao :: Ls) Ti n L0 L (s1.setGen gi .running) ((ao, oa) :: pc) hr.in1.in1 hfr hTi (by omega) hL (fun S hS => ?_) (fun b o _ e => e) hos (allBare_setGen hbare rfl) ?_ ⟨pc, oa, by rw [List.append_nil]; exact hTy, hgo, rfl⟩ fun q hq => hkeep _ _ (pinc q hq).1
    · exact ⟨(hch S hS).1, (hoff.all S hS).2.2.2.2, stk S hS, .inl (hch S hS).2⟩
    · rw [setGen_size']; exact hgil
  have hg0 : IsGW s1.heap ai gi 0 := IsGW.of hgen
  -- one turn, if those that follow do
  let Goal : Nat → Prop := fun n => ∀ (kq : Result → Sem PySem.Fin), (kq (.ok (.ret .none)) = K .next) → ∀ (L : Lean') (s1 : Shared) (gs : GenState), (n ≤ N) → s1.heap.NoLimit → IsGW s1.heap ai gi 0 → s1.gens[gi]? = some gs → FGo X.prog X.w Φ gi X.A.in1.in1 Ri Yi n gs L (s1.setGen gi .running) →
      SB X.prog X.w Φ (GB X.prog X.w Φ go A R (GP X.prog X.w X.outer X.H_0 X.s_0 Ls T Dy ao go N L0) n) L s1 (.builtin "proto.yield_from" ⟨[.ref ai, .bool false, .none], []⟩) (den (.builtin "proto.yield_from" ⟨[.ref ai, .bool false, .none], []⟩)) (.ret kq none (gd false) (lv []) c p [] :: fs)
  have one : ∀ m, (∀ m', m = m' + 1 → Goal m') → Goal m := by
    intro m ih kq hkq L s1 gs hmN hlim hg0 hgs hgo
    have hovy : A.over (.builtin "proto.yield_from" ⟨[.ref ai, .bool false, .none], []⟩) (.ret kq none (gd false) (lv []) c p [] :: fs) = X.A.in1 := by
      rw [over_under, hov, Around.under_plainId plain_yf]
    have hgil : gi < s1.gens.size := (Array.getElem?_eq_some_iff.mp hgs).1
    refine sb_yfGen (gb_under m) hovy hr.hd hlim (by have := hr.dp; show X.A.depth < _; omega) hg0 hgs hgo (fun m' v L1 s2 gs' e hb hy => ?_) fun L1 s2 h' hf hk => ?_
    · subst e
      obtain ⟨zs, x, H2, pci, pl, hnz, rv, os2, bare2, lim2, gw2, gsz2, un2, hok2, hai2', hTz, hpin2, hDy, hL1, hpl, wk⟩ := hy
      obtain ⟨pc0, oa0, hT0, hgo0', rfl⟩ := hTz
      refine ⟨0, gw2, fun h3 gw3 hk3 hs3 => ?_⟩
      have hsplit : splitAtGen (.ret kq none (gd false) (lv []) c p [] :: fs) = none := by
        show (splitAtGen fs).map _ = none
        rw [g.split]; rfl
      have hguard : (Frame.ret kq none (gd false) (lv []) c p [] :: fs).any Frame.guarded = false := by
        show (gd false || fs.any Frame.guarded) = false
        rw [g.gd, g.guard]; rfl
      rw [← fseg_eq]
      refine fseg_yield_over hsplit hguard rfl gw3.isG ?_
      have H2ch : ∀ b ∈ ao :: Ls, H2 b = none := fun b hb => by
        obtain ⟨o, ho⟩ := hTi.cover zs _ ⟨pc0, oa0, hT0, hgo0', rfl⟩ b hb
        exact (hpin2 _ ho).2
      have un3 : Un (frs X.stack) (ao :: Ls) H1 H2 sc.heap h3 := un_young un2 (fun b o e => neai b (Heap.lt_size e)) hk3
      have hok3 : HOk X.prog X.w H2 h3 := fun b u q => (hok2 b u q).stay (fun b' u' hb' e => hk3 b' u' (fun z => by
        rcases hb' with y | y
        · rw [← y, z, hai2'] at q; cases q
        · rw [z, hai2'] at y; cases y) e) (fun _ y => y) fun _ _ y => y
      have bare3 : AllBare ({ s2.setGen gi gs' with heap := h3 } : Shared).gens := allBare_setGen bare2 hb
      have I3 : Inv X ip σ H2 { s2.setGen gi gs' with heap := h3 } := Ii.call' (s' := { s2.setGen gi gs' with heap := h3 }) os2 un3 hok3 bare3 exok
      have ne3 : ∀ q ∈ (ao, oa0) :: pc0, q.1 ≠ ai := fun q hq => neai _ (hch _ (hTi.sub zs _ ⟨pc0, oa0, hT0, hgo0', rfl⟩ q hq)).2
      have pin3 : ∀ q ∈ (ao, oa0) :: pc0, h3.get? q.1 = some q.2 ∧ H2 q.1 = none := fun q hq => ⟨hk3 _ _ (ne3 q hq) (hpin2 q hq).1, (hpin2 q hq).2⟩
      obtain ⟨oai, nmi, qni, hoai, hclsi, hdati, hsloti⟩ := id gw3
      have hgz : go < ({ s2.setGen gi gs' with heap := h3 } : Shared).gens.size := by
        show go < (s2.setGen gi gs').gens.size
        rw [setGen_size']; omega
      refine ⟨ys ++ zs, x, H2, pc0, (ai, oai) :: pl, ?_, rv, I3.os, bare3, I3.nolimit, hgo0'.is (pin3 _ List.mem_cons_self).1, hgz, by rw [← hex]; exact I3.base, hok3, H2ch _ List.mem_cons_self, hT0, fun q hq => pin3 q (List.mem_cons_of_mem _ hq), by rw [List.append_assoc]; exact hDy, fun i b z => ?_, fun q hq => ?_, fun L2 s4 W => ?_⟩
      · rw [List.length_append]; omega
      · rcases z with z | ⟨rfl, rfl⟩
        · rcases hL1 i b z with y | ⟨o, y⟩
          · exact .inl y
          · exact .inr ⟨o, List.mem_cons_of_mem _ y⟩
        · exact .inr ⟨oai, List.mem_cons_self⟩
      · rcases List.mem_cons.mp hq with z | z
        · rw [z]
          refine ⟨hoai, ?_, hai2', Nat.lt_of_lt_of_le (hch ao List.mem_cons_self).2 hai1⟩
          unfold Obj.genNumber?
          rw [hclsi, hdati]
          rfl
        · obtain ⟨q1, q2, q3, q4⟩ := hpl q z
          exact ⟨hk3 _ _ (Nat.ne_of_gt q4) q1, q2, q3, Nat.lt_trans (Nat.lt_of_lt_of_le (hch ao List.mem_cons_self).2 hai1) q4⟩
      · -- woken
        rw [fseg_eq]
        refine sb_drop (g := go) (fun k l c p fs cl z => by rw [W.run] at z; cases z) ?_
        have aine : ai ≠ ao := Ne.symm (neai ao (hch ao List.mem_cons_self).2)
        have ainL : ai ∉ Ls := fun z => neai ai (hch ai (List.mem_cons_of_mem _ z)).2 rfl
        have gw4 : IsGW s4.heap ai gi 1 := IsGW.keeps (h := h3) gw3 fun o e => W.keep ai o aine ainL e
        have hgs4 : s4.gens[gi]? = some gs' := W.later gi gs' hgog (by
          show (s2.setGen gi gs').gens[gi]? = some gs'
          exact setGen_at gsz2)
        show SB X.prog X.w Φ _ _ s4 _ (yfWoken ai (.send .none)) _
        unfold yfWoken
        refine sb_bind (gb_under m') (wpAny_sleptW gw4 fun h5 gw5 hk5 hs5 => ?_)
        try dsimp only
        refine sb_bind (gb_under m') (wpAny_pure ?_)
        refine sb_again (plainId_quiet plain_yf _) ?_
        have gw5' : IsGW h5 ai gi 0 := gw5
        have hgz4 : gi < s4.gens.size := (Array.getElem?_eq_some_iff.mp hgs4).1
        obtain ⟨ocs, hocs⟩ : ∃ o, X.base.get? cStatics = some o := by
          obtain ⟨mc, ⟨o, es, ep, e, r⟩, q⟩ := Ic.mod.nolimit
          exact ⟨o, e⟩
        have nb : ∀ b, X.base.get? b = none → cStatics ≠ b := fun b hb z => by rw [← z, hocs] at hb; cases hb
        have csai : cStatics ≠ ai := neai cStatics (Heap.lt_size (Ic.bk _ _ hocs))
        have lim5 : h5.NoLimit := by
          obtain ⟨mc, ⟨o, es, ep, e, r⟩, q⟩ := I3.nolimit
          exact ⟨mc, ⟨o, es, ep, hk5 _ _ csai (W.keep _ _ (nb ao ha5) (fun z => nb cStatics ((hLs _ z).2.2.2) rfl) e), r⟩, q⟩
        refine ih m' rfl kq hkq _ { s4 with heap := h5 } gs' (by omega) lim5 gw5' hgs4 ?_
        have hW : Woke (ao :: Ls) Ti ai gi zs x L1 s2 (fun i b => L2 i b ∧ i ≠ go) (({ s4 with heap := h5 } : Shared).setGen gi .running) := by
          refine ⟨?_, ?_, fun b o hb hbl e => ?_, gw5', ?_, fun i y hi e => ?_, ?_, fun i b z => ?_, fun pt hpt hheld => ?_⟩
          · exact W.os
          · exact allBare_setGen (s := { s4 with heap := h5 }) W.bare rfl
          · exact hk5 b o hb (W.keep b o (fun z => hbl (by rw [z]; exact List.mem_cons_self)) (fun z => hbl (List.mem_cons_of_mem _ z)) (hk3 b o hb e))
          · exact setGen_at (s := { s4 with heap := h5 }) hgz4
          · rw [setGen_other (Nat.ne_of_gt hi)]
            refine W.later i y (Nat.lt_trans hgog hi) ?_
            show (s2.setGen gi gs').gens[i]? = some y
            rw [setGen_other (Nat.ne_of_gt hi)]
            exact e
          · rw [setGen_size']
            have q : (s2.setGen gi gs').gens.size ≤ s4.gens.size := W.size
            rw [setGen_size'] at q
            exact q
          · rcases W.lean i b z.1 with y | y
            · exact y
            · exact absurd y.1 z.2
          · obtain ⟨pc1, oa1, hT1, hgo1, rfl⟩ := hpt
            have ne1 : ∀ q ∈ (ao, oa1) :: pc1, q.1 ≠ ai := fun q hq => neai _ (hch _ (hTi.sub zs _ ⟨pc1, oa1, hT1, hgo1, rfl⟩ q hq)).2
            obtain ⟨pc2, hT2, hp2⟩ := W.tie pc1 hT1 fun q hq => hk3 _ _ (ne1 q (List.mem_cons_of_mem _ hq)) (hheld q (List.mem_cons_of_mem _ hq))
            obtain ⟨oa2, hoa2, hgo2⟩ := W.gen.go
            refine ⟨(ao, oa2) :: pc2, ⟨pc2, oa2, by rw [← List.append_assoc]; exact hT2, hgo2, rfl⟩, fun q hq => ?_⟩
            rcases List.mem_cons.mp hq with z | z
            · rw [z]; exact hk5 _ _ (Ne.symm aine) hoa2
            · exact hk5 _ _ (neai _ (hch _ (List.mem_cons_of_mem _ (hT.sub _ _ hT2 q z))).2) (hp2 q z)
        have fin := wk _ _ hW
        cases gs' with
        | suspended k₀ l₀ c₀ p₀ fs₀ cl => exact fin
        | fresh c₀ => exact fin.elim
        | running => exact fin.elim
        | finished => exact fin.elim
    · obtain ⟨zs, H2, pci, hzn, os2, bare2, gw2, gsz2, un2, hok2, hai2', hTz, hpin2, hL1, hQ⟩ := hf
      obtain ⟨pc0, oa0, hT0, hgo0', rfl⟩ := hTz
      have I4 : Inv X ip σ H2 { s2.setGen gi .finished with heap := h' } := Ii.call' (s' := { s2.setGen gi .finished with heap := h' }) os2 (un2.trans (Un.kept hk)) (hok2.kept hk) (allBare_setGen bare2 rfl) exok
      have hin : ∀ q ∈ (ao, oa0) :: pc0, q.1 ∈ ao :: Ls := fun q hq => hTi.sub zs _ ⟨pc0, oa0, hT0, hgo0', rfl⟩ q hq
      have I5 : Inv X (((ao, oa0) :: pc0) ++ ip) σ H2 { s2.setGen gi .finished with heap := h' } := inv_pins I4 fun q hq => by
        obtain ⟨_, q2, q3, _, _⟩ := hoff.all q.1 (hin q hq)
        exact ⟨hk _ _ (hpin2 q hq).1, (hpin2 q hq).2, q2, q3, hTi.plain zs _ ⟨pc0, oa0, hT0, hgo0', rfl⟩ q hq⟩
      refine sb_leaf (.ok (.ret .none)) ?_
      rw [hkq]
      refine kk m (ys ++ zs) L1 _ .next ?_ ⟨σ, H2, ⟨(ao, oa0) :: pc0, ⟨pc0, oa0, hT0, hgo0', rfl, hL1⟩, fun q hq r hr => fun z => hdj' r hr (by rw [← z]; exact hin q hq), I5, ?_⟩, hQ⟩
      · show m + (ys ++ zs).length = N
        rw [List.length_append]; omega
      · show go + 1 ≤ (s2.setGen gi .finished).gens.size
        rw [setGen_size']; omega
  have all : ∀ m, Goal m := fun m => by
    induction m with
    | zero => exact one 0 fun m' e => by cases e
    | succ m ih => exact one (m + 1) fun m' e => by cases e; exact ih
  exact all n _ rfl L s1 (.fresh ci) (by omega) hlim hg0 hgi2 hgo0
end
end Ra
-- RaI
set_option autoImplicit true
set_option maxRecDepth 512
set_option Elab.async false
set_option linter.all false
set_option maxRecDepth 100000
set_option maxHeartbeats 2000000
/-! RaI: a generator def by its body. -/
namespace Ra
open PySem PySem.Spec PyProof.Rows L2 C8

/-- a generator def's promise: what it is called with, how many at most, what holds of what is out, what holds at the end -/
abbrev SpY := List V → Hp → Nat → (List V → Hp → Prop) → (List V → Hp → Prop) → Prop
/-- the context of a generator's body -/
def gctx (P : Program) (w : World) (K : PySem.W.Frag) (mg : Str → Option Value) (base : Heap) (N : List Str) (qual : Str) (scope : Scope) (f : Addr) (cd : Value) (A : Around) (outer : List Env) (s : Shared) (H : Hp) (Ls : List Addr) : Cx :=
  { cxOf C8.CX0 P w K mg base N qual scope f cd A outer s H C8.E0 with ex := Ls, xe := fun _ _ => False }
structure GDef (P : Program) (w : World) (Φ : Outcome → Shared → Prop) (K : PySem.W.Frag) (mg : Str → Option Value) (base : Heap) (k : Nat) (f : Addr) (fd : FuncData) (ps : List Str) (sp : SpY) : Prop where
  len : ∀ vs H M Dy Q, sp vs H M Dy Q → vs.length = ps.length
  run : ∀ (A : Around) (outer : List Env) (s : Shared) (H : Hp) (args : Args) (us : List Value) (vs : List V) (M : Nat) (Dy Q : List V → Hp → Prop), Room k A → Env0 P w K mg base A outer s H → BindsTo s fd args (ps.zip us) → Vals vs us → sp vs H M Dy Q →
    codeAny (model P w) A (.call (.ref f) args) (fun r s' => match r with | .ok (.ret u) => GMk P w Φ base k outer H s M Dy Q u s' | _ => False) s
/-- the rule: the body's run -/
theorem sb_func {P : Program} {w : World} {Φ : Outcome → Shared → Prop} {B : List Frame → Prop} {L : Lean'} {s : Shared} {fs : List Frame} {body : List Stmt} {env : Env}
    (h : SB P w Φ B L s (.func body env) ((execs body env).wrap (fun f => .pure (.done (.ret (match f with | .ret v => v | _ => .none)))) (fun e => (leaving env e).wrap (fun _ => .raise e) .raise id id) id id) fs) :
    SB P w Φ B L s (.func body env) (den (.func body env)) fs := by
  show SB P w Φ B L s _ (.point [] fun _ => ((execs body env).onRaise (leaving env)) >>= _) fs
  refine sb_point ?_
  rw [Sem.onRaise_eq_wrap, Sem.bind_eq_wrap', Sem.wrap_wrap]
  rw [Sem.wrap_congr (execs body env) _ _ (K' := fun f => .pure (.done (.ret (match f with | .ret v => v | _ => .none)))) (H' := fun e => (leaving env e).wrap (fun _ => .raise e) .raise id id) (fun f => by cases f <;> rfl) (fun e => by rw [Sem.bind_eq_wrap, Sem.wrap_wrap]; rfl)]
  exact h

theorem gdef_of {P : Program} {w : World} {Φ : Outcome → Shared → Prop} {K : PySem.W.Frag} {mg : Str → Option Value} {base : Heap} {k : Nat} {f : Addr} {name qual : Str} {params : Arguments} {body : List Stmt} {scope : Scope} {dV kV doc pm cdv ct oc : Value} {an od : Option Addr}
    {osl : Array (Option Value)} {N ps : List Str} {sp : SpY} (lk : K.lookup f = some ⟨oc, od, .func (PySem.W.fnOf name qual params body scope dV kV doc pm an cdv ct), osl⟩) (hcd : PySem.W.codeIn K cdv qual = true) (S : GScope N ps scope)
    (len : ∀ vs H M Dy Q, sp vs H M Dy Q → vs.length = ps.length)
    (hbody : ∀ (A : Around) (outer : List Env) (s : Shared) (H : Hp) (vs : List V) (M : Nat) (Dy Q : List V → Hp → Prop) (Ls : List Addr), Room k (A.deeper (envOfC qual scope s.heap.objs.size f cdv)) → sp vs H M Dy Q →
      ∃ t, RSs (gctx P w K mg base N qual scope f cdv A outer s H Ls) (GBed (gctx P w K mg base N qual scope f cdv A outer s H Ls) Φ M Dy) body t ∧ t { nx := fun ys _ H' => Q ys H', rt := fun ys v H' => v = .non ∧ Q ys H' } [] (start N vs) H) :
    GDef P w Φ K mg base (k + 1) f (PySem.W.fnOf name qual params body scope dV kV doc pm an cdv ct) ps sp := by
  refine ⟨len, fun A outer s H args us vs M Dy Q hr e0 hb r hsp => ?_⟩
  have hl := len _ _ _ _ _ hsp
  have KX : K.In s.heap := e0.mod.kin.keeps fun b o e => (e0.bs b o e).1
  have lim : s.heap.NoLimit := e0.mod.nolimit.keeps fun b o e => (e0.bs b o e).1
  have hkind : ∀ y ∈ ps.zip us, scope.names.lookup y.1 = some .local ∨ (scope.names.lookup y.1 = some .cell ∧ ((cellsFrom (s.heap.objs.size + 1) scope.names []).lookup y.1).isSome = true) := fun ⟨n, v⟩ hy => by
    rcases S.par n (List.of_mem_zip hy).1 with q | q
    · exact .inl q
    · exact .inr ⟨q, PySem.W.cellsFrom_some _ _ _ (.inl q)⟩
  refine codeAny_call_generator hr.depth (KX _ _ lk) rfl S.co S.gen rfl (PySem.W.codeRec_of KX hcd) (hb _ _ _ _ ?_)
  refine wpAny_newFunctionEnv_cells S.kind hkind fun env he s1 x => ?_
  subst he
  have lim1 : s1.heap.NoLimit := lim.keeps x.toInCall.keep
  refine ⟨lim1, ?_⟩
  obtain ⟨h1, tk, es1, hk1⟩ := x.done
  have os1 : s1.os = s.os := by rw [es1]
  have gen1 : s1.gens = s.gens := by rw [es1]
  have lt1 : s.heap.objs.size < s1.heap.objs.size := x.toInCall.ns.lt
  have kp1 : ∀ b o, s.heap.get? b = some o → s1.heap.get? b = some o := x.toInCall.keep
  have main : ∀ (go : Obj) (nm qn : Value) (tk2 : Nat), go.cls = .type "generator" → go.data = .fields #[.int s1.gens.size 0, nm, qn] → go.slots = #[] → (∀ h : Heap, (h.push go).get? h.objs.size = some go) →
      GMk P w Φ base (k + 1) outer H s M Dy Q (.ref s1.heap.objs.size) { s1 with gens := s1.gens.push (.fresh (.func body (envOfC qual scope s.heap.objs.size f cdv))), toks := tk2, heap := s1.heap.push go } := by
    intro go nm qn tk2 hgc hgd0 hgs hgp
    have hpushed : (s1.heap.push go).get? s1.heap.objs.size = some go := hgp _
    have hGO : GO s1.gens.size go := ⟨nm, qn, hgc, hgd0, by unfold slotN; rw [hgs]; rfl⟩
    refine ⟨s1.heap.objs.size, s1.gens.size, _, rfl, Nat.le_of_lt lt1, ?_, ⟨go, nm, qn, hpushed, hgc, hgd0, hgs⟩, by rw [gen1]; exact Nat.le_refl _, Array.getElem?_push_size .., os1, ?_, lim1.keeps fun b o e => Heap.get?_push_of_some _ e, fun b o e => Heap.get?_push_of_some _ (kp1 b o e), ?_⟩
    · show _ < (s1.heap.push _).objs.size
      rw [Heap.size_push]; exact Nat.lt_succ_self _
    · exact AllBare.push (by rw [gen1]; exact e0.bare) rfl
    intro Aw Ls T N' L0 L s2 pc hrw hfr hT hMN hL hLs hk2 hos hba hgz hT0 hheld
    have e0w : Env0 P w K mg base Aw outer s H := ⟨hfr, e0.mod, e0.bs, e0.bsz, e0.funs, e0.frf, e0.hok, e0.bare⟩
    obtain ⟨t, ht, hq⟩ := hbody Aw outer s H vs M Dy Q Ls (hrw.deeper _) hsp
    have I1 := inv_startG (P := P) (w := w) (K := K) (mg := mg) (base := base) (N := N) (ps := ps) (qual := qual) (scope := scope) (f := f) (cd := cdv) (A := Aw) (outer := outer) (s := s) (s1 := s1) (H := H) (E := C8.E0) (us := us) (vs := vs) S hrw.hd e0w hl r x
    -- the frame's own are young
    have young : ∀ S ∈ Ls, S ≠ s.heap.objs.size ∧ (∀ y c, (cellsFrom (s.heap.objs.size + 1) scope.names []).lookup y = some c → c ≠ S) ∧ S ≠ s1.heap.objs.size := fun S hS => by
      obtain ⟨_, _, _, q⟩ := hLs S hS
      have hsz : (s1.heap.push go).objs.size = s1.heap.objs.size + 1 := Heap.size_push ..
      have q' : S < s.heap.objs.size ∨ s1.heap.objs.size + 1 ≤ S := by
        rcases q with q | q
        · exact .inl q
        · exact .inr (by rw [← hsz]; exact q)
      have n1 : ∀ m : Nat, s.heap.objs.size ≤ m → m ≤ s1.heap.objs.size → S ≠ m := fun m a1 a2 z => by
        subst z
        rcases q' with q | q
        · exact absurd (Nat.lt_of_lt_of_le q a1) (Nat.lt_irrefl _)
        · exact absurd (Nat.le_trans q a2) (Nat.not_succ_le_self _)
      refine ⟨n1 _ (Nat.le_refl _) (Nat.le_of_lt lt1), fun y c e z => ?_, n1 _ (Nat.le_of_lt lt1) (Nat.le_refl _)⟩
      obtain ⟨v, ob, ho, _⟩ := I1.cell y c e
      have c1 := Heap.lt_size ho
      have c2 := x.above y c (PySem.mem_of_lookup e)
      exact n1 c (Nat.le_of_lt c2) (Nat.le_of_lt c1) z.symm
    have I1' : Inv (gctx P w K mg base N qual scope f cdv Aw outer s H Ls) [] (start N vs) H s1 := by
      refine ⟨⟨I1.ok.mod, I1.ok.kind, I1.ok.glob, I1.ok.blt, I1.ok.above, I1.ok.inj, I1.ok.has, I1.ok.cab, I1.ok.hd, I1.ok.frames, I1.ok.stk, fun b hb => ⟨(young b hb).1, (young b hb).2.1⟩, I1.ok.bs, I1.ok.bsz, fun b o e hb => ?_, fun b hb => (hLs b hb).2.2.1, I1.ok.funs, I1.ok.frf⟩,
        I1.os, I1.bare, I1.base.mono (fun _ h => h) (fun b h => absurd (show b ∈ ([] : List Addr) from h) (by simp)), I1.loc, I1.cell, I1.free, I1.freeC, I1.pin, I1.hok, I1.len⟩
      have z := (hLs b hb).2.1
      rw [show base.get? b = some o from e] at z
      cases z
    have hoff : Off (gctx P w K mg base N qual scope f cdv Aw outer s H Ls) Ls := ⟨fun b hb => ⟨.inl hb, (young b hb).1, (hLs b hb).2.2.1, (young b hb).2.1, (hLs b hb).2.1⟩⟩
    have I2 : Inv (gctx P w K mg base N qual scope f cdv Aw outer s H Ls) [] (start N vs) H s2 :=
      inv_kept hoff (fun r hr => absurd (show r ∈ ([] : List (Addr × Obj)) from hr) (by simp)) (fun b hb => (hLs b hb).1) I1' (hos.trans os1.symm) hba fun b o hb e => hk2 b o hb (Heap.get?_push_of_some _ e)
    have hea : s2.heap.get? s1.heap.objs.size = some go := hk2 _ go (fun z => (young _ z).2.2 rfl) hpushed
    have ya : H s1.heap.objs.size = none ∧ s1.heap.objs.size ≠ s.heap.objs.size ∧ s1.heap.objs.size ∉ frs outer ∧ ∀ y c, (cellsFrom (s.heap.objs.size + 1) scope.names []).lookup y = some c → c ≠ s1.heap.objs.size :=
      ⟨I1.hok.fresh (Nat.le_refl _), Nat.ne_of_gt lt1, I1.nofs (Nat.le_refl _), fun y c e z => by
        obtain ⟨v, ob, ho, _⟩ := I1.cell y c e
        have := Heap.lt_size ho
        rw [z] at this
        exact absurd this (Nat.lt_irrefl _)⟩
    have hbase : base.get? s1.heap.objs.size = none := Heap.get?_none_of_le (Nat.le_trans e0.bsz (Nat.le_of_lt lt1))
    have I3 : Inv (gctx P w K mg base N qual scope f cdv Aw outer s H Ls) (((s1.heap.objs.size, go) :: pc) ++ []) (start N vs) H s2 := inv_pins I2 fun q hq => by
      rcases List.mem_cons.mp hq with z | z
      · rw [z]; exact ⟨hea, ya.1, ya.2.1, ya.2.2.1, hGO.data⟩
      · have hS := hT.sub _ _ hT0 q z
        exact ⟨hheld q z, (hLs _ hS).1, (young _ hS).1, (hLs _ hS).2.2.1, hT.plain _ _ hT0 q z⟩
    rw [fseg_eq]
    refine sb_func ?_
    refine ht.run (gbed (gctx P w K mg base N qual scope f cdv Aw outer s H Ls) Φ Aw (endF (GF P w outer H s Ls T Q s1.heap.objs.size s1.gens.size N' L0)) Dy s1.heap.objs.size s1.gens.size Ls T N' L0 hT)
      ⟨Aw, _, s1.heap.objs.size, s1.gens.size, Ls, T, N', L0, hT, rfl, hMN, rfl, fun z => (young _ z).2.2 rfl, Nat.le_of_lt lt1, ya.2.1, ya.2.2.1, ya.2.2.2, hbase, fun S hS => ⟨(young S hS).1, (hLs S hS).2.2.1, (young S hS).2.1, (hLs S hS).2.1⟩⟩
      N' [] L _ [] _ _ id id s2 (start N vs) H [] _ ⟨GenW.over_func, rfl, rfl, rfl, fun _ _ h => h⟩ (Nat.add_zero _) ?_ ⟨_, ⟨pc, go, hT0, hGO, rfl, hL⟩, fun q hq r hr => absurd (show r ∈ ([] : List (Addr × Obj)) from hr) (by simp), I3, hgz⟩ hq
    intro n ys L' s' fl hn hs
    have fin : ∀ {u : Value} {σ' : L2.St} {H' : Hp}, u = .none → RI (gctx P w K mg base N qual scope f cdv Aw outer s H Ls) (gbed (gctx P w K mg base N qual scope f cdv Aw outer s H Ls) Φ Aw (endF (GF P w outer H s Ls T Q s1.heap.objs.size s1.gens.size N' L0)) Dy s1.heap.objs.size s1.gens.size Ls T N' L0 hT) [] ys L' σ' H' s' → Q ys H' →
        endF (GF P w outer H s Ls T Q s1.heap.objs.size s1.gens.size N' L0) n (.ok (.ret u)) L' s' := fun {u σ' H'} hu hI hQ => by
      subst hu
      obtain ⟨pt, ⟨pc', oa, hT', hgo, rfl, hL'⟩, _, I', hz⟩ := hI
      have pin : ∀ q ∈ (s1.heap.objs.size, oa) :: pc', s'.heap.get? q.1 = some q.2 ∧ H' q.1 = none := fun q hq => by
        obtain ⟨q1, q2, _⟩ := I'.pin q (List.mem_append_right _ (List.mem_append_left _ hq))
        exact ⟨q1, q2⟩
      exact ⟨.inl rfl, ys, H', pc', hn, I'.os, I'.bare, hgo.is (pin _ List.mem_cons_self).1, hz, I'.base, I'.hok, (pin _ List.mem_cons_self).2, hT', fun q hq => pin q (List.mem_cons_of_mem _ hq), hL', hQ⟩
    show SB P w Φ (GB P w Φ s1.gens.size Aw _ _ n) L' s' _ (leafOf (.ok (.ret _))) []
    rw [← fseg_eq]
    cases fl with
    | next =>
      obtain ⟨σ', H', hI, hQ⟩ := hs
      exact fseg_end (fin rfl hI hQ)
    | brk => obtain ⟨_, _, _, q⟩ := hs; exact False.elim q
    | cont => obtain ⟨_, _, _, q⟩ := hs; exact False.elim q
    | ret u =>
      obtain ⟨v, σ', H', hI, rv, ev, hQ⟩ := hs
      subst ev
      exact fseg_end (fin rv hI hQ)
  exact main _ _ _ _ rfl rfl rfl fun h => Heap.get?_push_size _ rfl
end Ra
-- RaJ
set_option autoImplicit true
set_option maxRecDepth 512
set_option Elab.async false
set_option linter.all false
set_option maxRecDepth 100000
set_option maxHeartbeats 2000000
/-! RaJ: list(g), next in a for. -/
namespace Ra
open PySem PySem.Spec PyProof.Rows L2 C8

section
variable {P : Program} {w : World} {Φ : Outcome → Shared → Prop} {A : Around} {L : Lean'} {s : Shared} {E : Value → Lean' → Shared → Prop}
/-- a built-in code by its entry -/
theorem codeR_builtin {id : String} {args : Args} {b : Builtin} {R : Result → Lean' → Shared → Prop} (hb : entryFor table id = some b)
    (h : wpR P w Φ (A.under (.builtin id args)) (b args) (fun fin L' s' => match fin with | .done f => R (.ok f) L' s' | .again c' => c'.quiet = true ∧ codeR P w Φ A c' R L' s') (fun x L' s' => R (.error x) L' s') L s) : codeR P w Φ A (.builtin id args) R L s := by
  refine codeR_of_tree ?_
  show wpR P w Φ _ (match entryFor table id with | some b => b args | none => unsupported ((withoutEnding? id "#data").getD id)) _ _ L s
  rw [hb]
  exact h
theorem codeR_mono {c : Code} {R R' : Result → Lean' → Shared → Prop} (h : codeR P w Φ A c R L s) (k : ∀ r L s, R r L s → R' r L s) : codeR P w Φ A c R' L s := fun B AB c₀ fs kk g l p kp hB hA hR => h B AB c₀ fs kk g l p kp hB hA fun r L1 s1 q => hR r L1 s1 (k r L1 s1 q)
theorem wpR_callType {u : Value} {Bi : Builtin} {Q : Value → Lean' → Shared → Prop} (entryI : entryFor table "list.__init__" = some Bi)
    (hc : wpR P w Φ A.in1.in1 (Bi ⟨[.ref s.heap.objs.size, u], []⟩) (fun fin L' s' => match fin with | .done f => f = .ret .none ∧ Q (.ref s.heap.objs.size) L' s' | .again c' => c'.quiet = true ∧ codeR P w Φ A.in1 c' (fun r L2 s2 => r = .ok (.ret .none) ∧ Q (.ref s.heap.objs.size) L2 s2) L' s') E L
      { s with heap := s.heap.push { cls := .type "list", data := .seq #[] } }) : wpR P w Φ A (call (.type "list") [u]) Q E L s := by
  have ft := F.called_list
  obtain ⟨c, tl, hmro⟩ := ft.mro
  have hmade := ft.made
  have hsub := ft.sub
  refine wpR_call (codeR_of_tree ?_)
  show wpR P w Φ _ (callAny (.type "list") _) _ _ _ _
  refine wpR_pure ⟨Code.quiet_builtin _ (by decide +kernel), codeR_builtin F.entry_type_call ?_⟩
  rw [Around.under_plain (weight_type_call_type "list" [u] []) rfl]
  have h1 := ft.notType
  have h2 := ft.canCreate
  unfold Builtin.«type.__call__»
  dsimp only
  rw [if_neg (by rw [h1]; exact Bool.false_ne_true)]
  rw [if_neg (by rw [h2]; exact Bool.false_ne_true)]
  refine wpR_bindL (wpAny_of_eq (F.typeCall_list_1 u) ?_)
  refine wpR_bindL (wpAny_of_eq hmro ?_)
  rw [if_neg (by show ¬ ((c :: tl).isEmpty = true); exact Bool.false_ne_true)]
  refine wpR_bindL (wpAny_of_eq hmade ?_)
  refine wpR_bindL (wpAny_pure ?_)
  refine wpR_bindL (wpAny_holding (wpAny_call (code_list_new u ?_)))
  refine wpR_bindL (wpAny_isInstance (T := "list") (b := true) ⟨_, Heap.get?_push_size _ rfl, rfl⟩ hsub ?_)
  rw [if_neg (by decide)]
  refine wpR_bind (wpR_holding (wpR_special (T := "list") ⟨_, Heap.get?_push_size _ rfl, rfl⟩ F.slot_list_init (wpR_call (codeR_of_tree ?_))))
  show wpR P w Φ A.in1.in1 (do checkBuiltinCall "list.__init__" ⟨[.ref s.heap.objs.size, u], []⟩; again (.builtin "list.__init__" ⟨[.ref s.heap.objs.size, u], []⟩)) _ _ L _
  refine wpR_bindL (F.slot_list_init.check _ _ _ _ _ _ _ _ (T := "list") ⟨_, Heap.get?_push_size _ rfl, rfl⟩ (F.args_list_init_2 _ _) ?_)
  refine wpR_pure ⟨plainId_quiet F.slot_list_init.plain _, codeR_builtin entryI ?_⟩
  rw [Around.under_plainId F.slot_list_init.plain]
  refine wpR_mono hc (fun fin L1 s1 q => ?_) fun x L1 s1 q => q
  have fin2 : ∀ r L2 s2, (r = Except.ok (Flow.ret Value.none) ∧ Q (Value.ref s.heap.objs.size) L2 s2) → (match r with
      | .ok (.ret v) => wpR P w Φ A.in1 (match (some v : Option Value) with
        | none => ret (.ref s.heap.objs.size)
        | some r => if (r != Value.none) = true then do
            rule "type.call.init-returned-value"
            raiseError "TypeError" s!"__init__() should return None, not '{← typeNameOf r}'"
            ret (.ref s.heap.objs.size)
          else ret (.ref s.heap.objs.size)) (fun fin L' s' => match fin with | .done f => (match (Except.ok f : Result) with | .ok (.ret v) => Q v L' s' | .ok _ => False | .error x => E x L' s') | .again c' => c'.quiet = true ∧ codeR P w Φ A c' (fun r L' s' => match r with | .ok (.ret v) => Q v L' s' | .ok _ => False | .error x => E x L' s') L' s') (fun x L' s' => E x L' s') L2 s2
      | .ok _ => False
      | .error x => E x L2 s2) := by
    rintro r L2 s2 ⟨rfl, q⟩
    dsimp only
    rw [if_neg (by decide)]
    exact wpR_pure q
  cases fin with
  | done f =>
    obtain ⟨rfl, q⟩ := q
    exact fin2 _ L1 s1 ⟨rfl, q⟩
  | again c' =>
    exact ⟨q.1, codeR_mono q.2 fun r L2 s2 q2 => by obtain ⟨rfl, q2⟩ := q2; exact fin2 _ L2 s2 ⟨rfl, q2⟩⟩

/-! ### the drain -/
/-- the consumer's list -/
def tieL (S : Addr) : Tie := fun ys pc => ∃ (acc : Array Value) (c : Nat), Vals ys acc.toList ∧ pc = [(S, lstObj acc c)]
theorem tieL_ok (S : Addr) : TieOk [S] (tieL S) where
  cover := fun ys pc ⟨acc, c, _, e⟩ T hT => by
    subst e
    rw [List.mem_singleton.mp hT]
    exact ⟨_, List.mem_singleton.mpr rfl⟩
  sub := fun ys pc ⟨acc, c, _, e⟩ q hq => by
    subst e
    rw [List.mem_singleton.mp hq]
    exact List.mem_singleton.mpr rfl
  plain := fun ys pc ⟨acc, c, _, e⟩ q hq v => by
    subst e
    rw [List.mem_singleton.mp hq]
    exact fun z => by cases z
theorem codeR_drain {outer : List Env} {H : Hp} {sc : Shared} {Dy Q : List V → Hp → Prop} {R : Result → Lean' → Shared → Prop} {S a : Addr} {g : Nat} {res : Value} {L0 : Lean'} (hh : A.handled = none) (hd : A.depth < recursionLimit) (hSa : S ≠ a) (hSc : S ≠ cStatics) (hac : a ≠ cStatics)
    (hend : ∀ s' acc c H' ys L', s'.heap.get? S = some (lstObj acc c) → Vals ys acc.toList → ys.length ≤ sizeLine → s'.os = sc.os → AllBare s'.gens → Un (frs outer) [S] H H' sc.heap s'.heap → HOk P w H' s'.heap → H' S = none → (∀ i b, L' i b → L0 i b) → Q ys H' → R (.ok (.ret res)) L' s') :
    ∀ (n : Nat) (L : Lean') (s : Shared) (gs : GenState), s.heap.NoLimit → IsGW s.heap a g 0 → s.gens[g]? = some gs →
      FGo P w Φ g A.in1.in1 (endF (GF P w outer H sc [S] (tieL S) Q a g sizeLine L0)) (GP P w outer H sc [S] (tieL S) Dy a g sizeLine L0) n gs L (s.setGen g .running) →
      codeR P w Φ A (.builtin "list.extend.loop" ⟨[.ref S, .ref a, res], []⟩) R L s := by
  intro n
  induction n with
  | zero =>
    intro L s gs hl hg hgs hgo
    refine codeR_builtin F.entry_extend_loop ?_
    rw [Around.under_plainId F.plain_extend_loop _]
    show wpR P w Φ A.in1 (pyNext (.ref a) >>= _) _ _ L s
    refine wpR_bind (wpR_genPy (A := A.in1) hh hl hd hg hgs hgo (fun m v L1 s1 gs' e => by cases e) fun L1 s1 h' hf hk => ?_)
    obtain ⟨ys, H1, pc, hn, os1, bare1, gw1, gz1, un1, hok1, ha1, ⟨acc, c, hv, rfl⟩, hp, hL1, hq⟩ := hf
    obtain ⟨q1, q2⟩ := hp _ (List.mem_singleton.mpr rfl)
    exact wpR_pure (hend _ acc c H1 ys L1 (hk _ _ q1) hv (by omega) os1 (allBare_setGen bare1 rfl) (un1.trans (Un.kept hk)) (hok1.kept hk) q2 hL1 hq)
  | succ n ih =>
    intro L s gs hl hg hgs hgo
    refine codeR_builtin F.entry_extend_loop ?_
    rw [Around.under_plainId F.plain_extend_loop _]
    show wpR P w Φ A.in1 (pyNext (.ref a) >>= _) _ _ L s
    refine wpR_bind (wpR_genPy (A := A.in1) hh hl hd hg hgs hgo (fun m v L1 s1 gs' e hb hy => ?_) fun L1 s1 h' hf hk => ?_)
    · cases e
      obtain ⟨ys, x, H1, pc, pl, hn, rv, os1, bare1, lim1, gw1, gz1, un1, hok1, ha1, ⟨acc, c, hv, rfl⟩, hp, hDy, hL1, hpl, wk⟩ := hy
      obtain ⟨hS1, hS2⟩ := hp _ (List.mem_singleton.mpr rfl)
      have hasz : acc.size = ys.length := by
        have e1 := hv.length
        have e2 : acc.toList.length = acc.size := by simp
        omega
      show wpR P w Φ A.in1 (updateSeq S (·.push v) >>= _) _ _ L1 _
      refine wpR_bindL ?_
      refine wpAny_updateSeq hS1 rfl ?_ (by omega) (by show (acc.push v).size ≤ sizeLine + 1; rw [Array.size_push]; omega)
      refine wpR_pure ⟨plainId_quiet F.plain_extend_loop _, ?_⟩
      have keep3 : ∀ b o, b ≠ S → s1.heap.get? b = some o → (s1.heap.update S (Obj.mapSeq (·.push v))).get? b = some o := fun b o hbS e => (Heap.get?_update_other _ _ (Ne.symm hbS)).trans e
      have gw3 : IsGW (s1.heap.update S (Obj.mapSeq (·.push v))) a g 0 := gw1.keeps fun o e => keep3 a o (Ne.symm hSa) e
      refine ih L1 { s1.setGen g gs' with heap := s1.heap.update S (Obj.mapSeq (·.push v)) } gs' ?_ gw3 (setGen_at gz1) ?_
      · obtain ⟨mc, ⟨o, es, ep, e, r⟩, q⟩ := lim1
        exact ⟨mc, ⟨o, es, ep, keep3 _ _ (Ne.symm hSc) e, r⟩, q⟩
      · have hW : Woke [S] (tieL S) a g ys x L1 s1 L1 (({ s1.setGen g gs' with heap := s1.heap.update S (Obj.mapSeq (·.push v)) } : Shared).setGen g .running) := by
          refine ⟨rfl, allBare_setGen (allBare_setGen bare1 hb) rfl, fun b o _ hbS e => keep3 b o (fun z => hbS (List.mem_singleton.mpr z)) e, gw3, setGen_at (by rw [show ({ s1.setGen g gs' with heap := s1.heap.update S (Obj.mapSeq (·.push v)) } : Shared).gens = (s1.setGen g gs').gens from rfl, setGen_size']; exact gz1), fun i y hi e => ?_, ?_, fun i b z => z, fun pc ⟨acc', c', hv', e⟩ hheld => ?_⟩
          · rw [setGen_other (Nat.ne_of_gt hi)]
            show (s1.setGen g gs').gens[i]? = some y
            rw [setGen_other (Nat.ne_of_gt hi)]
            exact e
          · rw [setGen_size']
            show s1.gens.size ≤ (s1.setGen g gs').gens.size
            rw [setGen_size']
            exact Nat.le_refl _
          · subst e
            have e1 := hheld _ (List.mem_singleton.mpr rfl)
            have e2 := Heap.get?_update_self (Obj.mapSeq (·.push v)) e1 rfl
            refine ⟨[(S, Obj.mapSeq (·.push v) (lstObj acc' c'))], ⟨acc'.push v, _, ?_, rfl⟩, fun q hq => ?_⟩
            · rw [Array.toList_push]
              exact hv'.append (.cons rv .nil)
            · rw [List.mem_singleton.mp hq]
              exact e2
        have fin := wk _ _ hW
        cases gs' with
        | suspended k₀ l₀ c₀ p₀ fs₀ cl => exact fin
        | fresh c₀ => exact fin.elim
        | running => exact fin.elim
        | finished => exact fin.elim
    · obtain ⟨ys, H1, pc, hn, os1, bare1, gw1, gz1, un1, hok1, ha1, ⟨acc, c, hv, rfl⟩, hp, hL1, hq⟩ := hf
      obtain ⟨q1, q2⟩ := hp _ (List.mem_singleton.mpr rfl)
      exact wpR_pure (hend _ acc c H1 ys L1 (hk _ _ q1) hv (by omega) os1 (allBare_setGen bare1 rfl) (un1.trans (Un.kept hk)) (hok1.kept hk) q2 hL1 hq)
end
end Ra
-- RaK
set_option autoImplicit true
set_option maxRecDepth 512
set_option Elab.async false
set_option linter.all false
set_option maxRecDepth 100000
set_option maxHeartbeats 2000000
/-! RaK: list(g) as a value. -/
namespace Ra
open PySem PySem.Spec PyProof.Rows L2 C8

section
variable {X : Cx} {Φ : Outcome → Shared → Prop}
theorem wpR_listG {pins : List (Addr × Obj)} {σ : L2.St} {H1 : Hp} {sc s : Shared} {k M : Nat} {Dy Q : List V → Hp → Prop} {u : Value} {L : Lean'} {Q' : Value → Lean' → Shared → Prop} {E : Value → Lean' → Shared → Prop} (hr : Room (k + 3) X.A) (I : Inv X pins σ H1 sc) (h : GMk X.prog X.w Φ X.base k X.stack H1 sc M Dy Q u s) (hM : M ≤ sizeLine)
    (hQ : ∀ S s2 H2 ys L2, Inv X pins σ (upd H2 S (.lst ys)) s2 → Q ys H2 → H2 S = none → (∀ i b, L2 i b → L i b) → Q' (.ref S) L2 s2) : wpR X.prog X.w Φ X.A (call (.type "list") [u]) Q' E L s := by
  obtain ⟨a, g, c, rfl, ha1, ha2, hg, hg1, hgs, hos, hb, hl, hkp, wake⟩ := h
  have hSa : s.heap.objs.size ≠ a := Nat.ne_of_gt ha2
  have hcb : cStatics < X.base.objs.size := let ⟨_, hn, _⟩ := I.mod.nolimit; hn.lt
  have hcs : cStatics < sc.heap.objs.size := Nat.lt_of_lt_of_le hcb (Nat.le_trans I.ok.bsz I.sz)
  have hcl : cStatics < s.heap.objs.size := Nat.lt_of_lt_of_le hcs (Nat.le_trans ha1 (Nat.le_of_lt ha2))
  have hSc : s.heap.objs.size ≠ cStatics := Nat.ne_of_gt hcl
  have hac : a ≠ cStatics := Nat.ne_of_gt (Nat.lt_of_lt_of_le hcs ha1)
  refine wpR_callType F.entry_list_init ?_
  have hS : (s.heap.push { cls := .type "list", data := .seq #[] }).get? s.heap.objs.size = some { cls := .type "list", data := .seq #[] } := Heap.get?_push_size _ rfl
  show wpR X.prog X.w Φ X.A.in1.in1 (do let old ← Builtin.List.listItems (.ref s.heap.objs.size); Builtin.List.listUpdate (.ref s.heap.objs.size) (fun _ => #[]); letGo old.toList.reverse; Builtin.List.listExtendWith (.ref s.heap.objs.size) (.ref a) .none) _ _ L _
  refine wpR_bindL ?_
  unfold Builtin.List.listItems
  refine wpAny_bind (wpAny_seqItems hS rfl (wpAny_pure ?_))
  show wpR X.prog X.w Φ X.A.in1.in1 (updateSeq s.heap.objs.size (fun _ => #[]) >>= fun _ => letGo (#[] : Array Value).toList.reverse >>= fun _ => Builtin.List.listExtendWith (.ref s.heap.objs.size) (.ref a) .none) _ _ L _
  refine wpR_bindL (wpAny_updateSeq hS rfl ?_)
  have hS2 := Heap.get?_update_self (Obj.mapSeq (fun _ => (#[] : Array Value))) hS rfl
  refine wpR_bindL (wpAny_letGo ?_)
  unfold Builtin.List.listExtendWith
  have up : ∀ (h : Heap) (f : Obj → Obj), (∀ b o, s.heap.get? b = some o → h.get? b = some o) → ∀ b o, s.heap.get? b = some o → (h.update s.heap.objs.size f).get? b = some o := fun h f q b o e =>
    (Heap.get?_update_other _ _ (Ne.symm (Nat.ne_of_lt (Heap.lt_size e)))).trans (q b o e)
  have k1 : ∀ b o, s.heap.get? b = some o → (s.heap.push { cls := .type "list", data := .seq #[] }).get? b = some o := fun b o e => Heap.get?_push_of_some _ e
  have k2 := up _ (Obj.mapSeq (fun _ => (#[] : Array Value))) k1
  have gty : ∀ {h : Heap}, (∀ b o, s.heap.get? b = some o → h.get? b = some o) → h.IsGen a g := fun {h} q => hg.keeps q
  refine wpR_bindL (wpAny_typeOf (Heap.IsGen.typeIs (s := { s with heap := _ }) (gty k2)) ?_)
  have h1 : Builtin.List.listSameRef (.ref s.heap.objs.size) (.ref a) = false := by simp [Builtin.List.listSameRef, hSa]
  have h2 : (Value.type "generator" == Value.type "list") = false := by decide
  have h3 : (Value.type "generator" == Value.type "tuple") = false := by decide
  simp only [h1, h2, h3, Bool.or_false, Bool.false_eq_true, if_false]
  refine wpR_bindL (wpAny_pyIter_gen (s := { s with heap := _ }) (gty k2) ?_)
  refine wpR_bindL (wpAny_holding ?_)
  unfold Builtin.List.listLengthHint
  refine wpAny_bind (wpAny_specialOf (Heap.IsGen.typeIs (s := { s with heap := _ }) (gty k2)) F.gen_no_len ?_)
  show wpAny _ _ (specialOf (Value.ref a) (Str.ofString "__length_hint__") >>= _) _ _ _
  refine wpAny_bind (wpAny_specialOf (Heap.IsGen.typeIs (s := { s with heap := _ }) (gty k2)) F.gen_no_hint ?_)
  refine wpAny_pure ?_
  show wpR X.prog X.w Φ X.A.in1.in1 (rule "list.extend.makes-room" >>= fun _ => Builtin.List.listTouch (.ref s.heap.objs.size) >>= fun _ =>
    again (.builtin "list.extend.loop" ⟨[.ref s.heap.objs.size, .ref a, .none], []⟩)) _ _ L _
  refine wpR_bindL (wpAny_rule ?_)
  refine wpR_bindL ?_
  show wpAny _ _ (updateSeq s.heap.objs.size (·.push .none) >>= fun _ => updateSeq s.heap.objs.size (·.pop)) _ _ _
  refine wpAny_bind (wpAny_updateSeq hS2 rfl ?_)
  have hS3 := Heap.get?_update_self (Obj.mapSeq (·.push Value.none)) hS2 rfl
  refine wpAny_updateSeq (hz := by seq_fits) hS3 rfl ?_
  have hS4 := Heap.get?_update_self (Obj.mapSeq (·.pop)) hS3 rfl
  have k4 := up _ (Obj.mapSeq (·.pop)) (up _ (Obj.mapSeq (·.push Value.none)) k2)
  refine wpR_pure ⟨plainId_quiet F.plain_extend_loop _, ?_⟩
  have hgl : g < s.gens.size := (Array.getElem?_eq_some_iff.mp hgs).1
  have hbS : X.base.get? s.heap.objs.size = none := Heap.get?_none_of_le (Nat.le_trans I.ok.bsz (Nat.le_trans I.sz (Nat.le_trans ha1 (Nat.le_of_lt ha2))))
  have hsc : sc.heap.objs.size ≤ s.heap.objs.size := Nat.le_trans ha1 (Nat.le_of_lt ha2)
  have hstk : s.heap.objs.size ∉ frs X.stack := fun z => by
    rcases List.mem_cons.mp (I.stkSub _ z) with y | y
    · exact absurd (Nat.lt_of_lt_of_le I.lt hsc) (by rw [y]; exact Nat.lt_irrefl _)
    · exact I.nofs hsc y
  obtain ⟨c4, hS5⟩ : ∃ c4, Heap.get? _ s.heap.objs.size = some (lstObj #[] c4) := ⟨_, hS4⟩
  have hend : ∀ (s' : Shared) (acc : Array Value) (c : Nat) (H' : Hp) (ys : List V) (L' : Lean'), s'.heap.get? s.heap.objs.size = some (lstObj acc c) → Vals ys acc.toList → ys.length ≤ sizeLine → s'.os = sc.os → AllBare s'.gens → Un (frs X.stack) [s.heap.objs.size] H1 H' sc.heap s'.heap → HOk X.prog X.w H' s'.heap → H' s.heap.objs.size = none → (∀ i b, L' i b → L i b) → Q ys H' →
      Q' (.ref s.heap.objs.size) L' s' := fun s' acc c H' ys L' q1 q2 q3 q4 q5 q6 q7 q8 q9 q10 => by
    refine hQ _ s' H' ys L' ?_ q10 q8 q9
    have un' : Un (frs X.stack) [] H1 H' sc.heap s'.heap := by
      have neS : ∀ b o, sc.heap.get? b = some o → b ∉ [s.heap.objs.size] := fun b o e z => by
        rw [List.mem_singleton.mp z] at e
        exact absurd (Nat.lt_of_lt_of_le (Heap.lt_size e) hsc) (Nat.lt_irrefl _)
      exact ⟨fun b o e n hb _ => q6.keep b o e n hb (neS b o e), fun b o e n hb _ => q6.slot b o e n hb (neS b o e), fun b o e n _ => q6.free b o e n (neS b o e), fun b o e _ => q6.there b o e (neS b o e), q6.tups, q6.frzs, q6.tbls⟩
    exact I.drained (ex := []) hsc q3 q1 q2 ExOk.nil q4 q5 un' q7 q8
  refine codeR_drain (P := X.prog) (w := X.w) (A := X.A.in1) (outer := X.stack) (H := H1) (sc := sc) (Dy := Dy) (Q := Q) (L0 := L) hr.hd (by have := hr.dp; show X.A.depth < _; omega) hSa hSc hac
    (fun s' acc c H' ys L' q1 q2 q3 q4 q5 q6 q7 q8 q9 q10 => ⟨rfl, hend s' acc c H' ys L' q1 q2 q3 q4 q5 q6 q7 q8 q9 q10⟩) sizeLine L _ (.fresh c) (hl.keeps k4) (IsGW.of (gty k4)) hgs ?_
  refine wake X.A.in1.in1.in1 [s.heap.objs.size] (tieL s.heap.objs.size) sizeLine L L _ [(s.heap.objs.size, lstObj #[] c4)] hr.in1.in1.in1 I.ok.frames (tieL_ok _) hM (fun i b z => z) (fun S hS' => ?_) (fun b o _ e => k4 b o e) hos (allBare_setGen hb rfl) ?_ ⟨#[], c4, .nil, rfl⟩ fun q hq => ?_
  · rw [List.mem_singleton.mp hS']
    exact ⟨I.hok.fresh hsc, hbS, hstk, .inr (Nat.le_refl _)⟩
  · rw [setGen_size']; exact hgl
  · rw [List.mem_singleton.mp hq]
    exact hS5
end
end Ra
-- RaL
set_option autoImplicit true
set_option maxRecDepth 512
set_option Elab.async false
set_option linter.all false
set_option maxRecDepth 100000
set_option maxHeartbeats 2000000
/-! RaL: expressions and statements about list(generator). -/
namespace Ra
open PySem PySem.Spec PyProof.Rows L2 C8

section
variable {P : Program} {w : World} {Φ : Outcome → Shared → Prop} {A : Around} {L : Lean'} {s : Shared} {E : Value → Lean' → Shared → Prop}
theorem wpR_args1 {f : Value} {t : Sem Value} {Q : Args → Lean' → Shared → Prop} (h : wpR P w Φ A t (fun v L' s' => Q ⟨[v], []⟩ L' s') E L s) : wpR P w Φ A (evalArgs f true [(false, t)] []) Q E L s := by
  unfold evalArgs
  show wpR P w Φ A (spliced [(false, t)] >>= _) Q E L s
  have sp : ∀ {Q' : List Value → Lean' → Shared → Prop}, wpR P w Φ A t (fun v L' s' => Q' [v] L' s') E L s → wpR P w Φ A (spliced [(false, t)]) Q' E L s := fun {Q'} hq => by
    rw [spliced]
    refine wpR_bind (wpR_mono hq (fun v L1 s1 q => ?_) fun _ _ _ x => x)
    simp only [Bool.false_eq_true, if_false]
    refine wpR_bind (wpR_pure (wpR_bind (wpR_holding ?_)))
    exact wpR_pure (wpR_pure q)
  refine wpR_bind (sp (wpR_mono h (fun v L1 s1 q => ?_) fun _ _ _ x => x))
  refine wpR_holding ?_
  exact wpR_bind (wpR_pure (wpR_bind (wpR_pure (wpR_pure q))))
theorem wpR_callWithT {pos : Pos} {T : String} {t : Sem Value} {Q : Value → Lean' → Shared → Prop} (h : wpR P w Φ A t (fun v L' s' => wpR P w Φ A (call (.type T) [v]) Q E L' s') E L s) : wpR P w Φ A (callWith pos (.type T) [] [(false, t)] []) Q E L s := by
  unfold callWith
  refine wpR_bind (wpR_holding (wpR_args1 (wpR_mono h (fun v L1 s1 q => wpR_bindL (wpAny_standAt ?_)) fun _ _ _ x => x)))
  simp only [List.any_cons, List.any_nil, Bool.or_false]
  refine wpR_bind (wpR_pure ?_)
  exact wpR_bind (wpR_mono q (fun r L2 s2 q2 => wpR_bindL (wpAny_holding (wpAny_point (wpR_pure q2)))) fun _ _ _ x => x)
theorem wpR_callWithB {pos : Pos} {id : String} {t : Sem Value} {Q : Value → Lean' → Shared → Prop} (h : wpR P w Φ A t (fun v L' s' => wpR P w Φ A (call (.builtin id) [v]) Q E L' s') E L s) : wpR P w Φ A (callWith pos (.builtin id) [] [(false, t)] []) Q E L s := by
  unfold callWith
  refine wpR_bind (wpR_holding (wpR_args1 (wpR_mono h (fun v L1 s1 q => wpR_bindL (wpAny_standAt ?_)) fun _ _ _ x => x)))
  simp only [List.any_cons, List.any_nil, Bool.or_false]
  refine wpR_bind (wpR_pure ?_)
  exact wpR_bind (wpR_mono q (fun r L2 s2 q2 => wpR_bindL (wpAny_holding (wpAny_point (wpR_pure q2)))) fun _ _ _ x => x)
end

section
variable {X : Cx} {Φ : Outcome → Shared → Prop}
/-- an expression, on the real machine -/
structure PER (X : Cx) (Φ : Outcome → Shared → Prop) (e : Expr) (t : TE) : Prop where
  run : ∀ (pins : List (Addr × Obj)) (s : Shared) (σ : L2.St) (H : Hp) (L : Lean') (Q : VK), Inv X pins σ H s → t σ H Q → wpR X.prog X.w Φ X.A (eval e X.env) (fun u L' s' => (∀ i b, L' i b → L i b) ∧ ∃ v H', Inv X pins σ H' s' ∧ RelV v u ∧ Q v H') (fun _ _ _ => False) L s
/-- a test -/
structure PTR (X : Cx) (Φ : Outcome → Shared → Prop) (e : Expr) (t : TT) : Prop where
  run : ∀ (pins : List (Addr × Obj)) (s : Shared) (σ : L2.St) (H : Hp) (L : Lean') (Q : Bool → Hp → Prop), Inv X pins σ H s → t σ H Q → wpR X.prog X.w Φ X.A (isTrue e X.env (eval e X.env)) (fun c L' s' => (∀ i b, L' i b → L i b) ∧ ∃ H', Inv X pins σ H' s' ∧ Q c H') (fun _ _ _ => False) L s
variable {e a b : Expr} {te ta tb : TE} {p pos : Pos} {nm : Str}
theorem per_pe (nox : ∀ e s, ¬ X.xe e s) (h : PE X e te) : PER X Φ e te :=
  ⟨fun pins s σ H L Q I ht => wpR_lift (wpAny_mono (h.run pins s σ H Q I ht) (fun u s' ⟨v, H', I', r, q⟩ => ⟨fun _ _ z => z, v, H', I', r, q⟩) fun x s' hx => (nox x s' hx).elim)⟩
def tListR (tg : TMk) : TE := fun σ H Q => ∃ M, M ≤ sizeLine ∧ tg σ H M (fun _ _ => True) fun ys H1 => ∀ p, H1 p = none → Q (.ref p) (upd H1 p (.lst ys))
/-- list(g) -/
theorem per_list {k : Nat} {tg : TMk} (nox : ∀ e s, ¬ X.xe e s) (h : PMk X Φ k e tg) (hr : Room (k + 3) X.A) (hg : Gl X nm) (hmg : X.mg nm = none) (hv : bootBuiltins nm = some (.type "list")) (hnm : nm ≠ "__name__" := by decide) (hdb : (nm == ("__debug__" : Str)) = false := by decide)
    (he : starEach [e] X.env = (false, eval e X.env) :: starEach [] X.env := by rfl) : PER X Φ (.Call (.Name nm p) [e] [] pos) (tListR tg) := by
  refine ⟨fun pins s σ H L Q I ⟨M, hM, hq⟩ => ?_⟩
  rw [arm_eval_Call_Name']
  refine wpR_bindL (ld_blt I hg hmg hv ?_ hnm hdb)
  rw [he]
  refine wpR_callWithT (wpR_lift (wpAny_mono (h.run pins s σ H M _ _ I hq) (fun u s1 ⟨H1, sc, I1, hsz, hG⟩ => ?_) fun x s' hx => (nox x s' hx).elim))
  exact wpR_listG hr I1 hG hM fun S s2 H2 ys L2 I2 q hn hL => ⟨hL, .ref S, upd H2 S (.lst ys), I2, rfl, q S hn⟩
/-- f(e), f a built-in function -/
theorem per_callB {id : String} {r : List V → Hp → VK → Prop} (nox : ∀ e s, ¬ X.xe e s) (hc : CallR X (.builtin id) r) (h : PER X Φ e te) (hg : Gl X nm) (hmg : X.mg nm = none) (hv : bootBuiltins nm = some (.builtin id)) (hnm : nm ≠ "__name__" := by decide) (hdb : (nm == ("__debug__" : Str)) = false := by decide)
    (he : starEach [e] X.env = (false, eval e X.env) :: starEach [] X.env := by rfl) : PER X Φ (.Call (.Name nm p) [e] [] pos) (fun σ H Q => te σ H fun v H1 => r [v] H1 Q) := by
  refine ⟨fun pins s σ H L Q I hq => ?_⟩
  rw [arm_eval_Call_Name']
  refine wpR_bindL (ld_blt I hg hmg hv ?_ hnm hdb)
  rw [he]
  refine wpR_callWithB (wpR_mono (h.run pins s σ H L _ I hq) (fun u L1 s1 q => ?_) fun _ _ _ x => x)
  obtain ⟨hL, v, H1, I1, rv, q1⟩ := q
  refine wpR_lift (wpAny_mono (hc pins s1 σ H1 [v] [u] Q I1 (.cons rv .nil) q1) (fun u2 s2 q2 => ?_) fun x s' hx => (nox x s' hx).elim)
  obtain ⟨v2, H2, I2, r2, q2⟩ := q2
  exact ⟨hL, v2, H2, I2, r2, q2⟩
/-- a op b as a test -/
theorem ptr_cmp {op : CmpOp} {r : R2} (nox : ∀ e s, ¬ X.xe e s) (ho : OpR X (compareOp op) r) (ha : PER X Φ a ta) (hb : PE X b tb) (hm : behindInMarks op b = false) : PTR X Φ (.Compare a [op] [b] pos) (tTest (tOp r ta tb)) := by
  refine ⟨fun pins s σ H L Q I hq => ?_⟩
  rw [isTrue_Compare1]
  refine wpR_bind (wpR_mono (ha.run pins s σ H L _ I hq) (fun u L1 s1 q => ?_) fun _ _ _ x => x)
  obtain ⟨hL, x, H1, I1, rx, q1⟩ := q
  refine wpR_lift ?_
  have key : wpAny (model X.prog X.w) X.A (eval b X.env) (fun v s2 => wpAny (model X.prog X.w) X.A (compareOp op u v) (fun c s3 => wpAny (model X.prog X.w) X.A (truthy c) (fun c' s4 => (∀ i b, L1 i b → L i b) ∧ ∃ H', Inv X pins σ H' s4 ∧ Q c' H') (fun _ _ => False) s3) (fun _ _ => False) s2) (fun _ _ => False) s1 := by
    refine wpAny_mono (hb.run pins s1 σ H1 _ I1 q1) (fun v s2 ⟨y, H2, I2, r2, q2⟩ => ?_) fun x s' hx => (nox x s' hx).elim
    refine wpAny_mono (ho pins s2 σ H2 x y u v _ I2 rx r2 q2) (fun c s3 ⟨z, H3, I3, r3, k, e, q3⟩ => ?_) fun x s' hx => (nox x s' hx).elim
    subst e
    cases r3
    exact wpAny_truthy_bool ⟨hL, H3, I3, q3⟩
  intro Γ p hΓ
  simp only [markedBehindIn_of_false hm, Sem.wp_bind', Sem.wp_holding, Sem.wp_cmd_standAt, Sem.wp_operate]
  exact Sem.wp_mono _ Γ _ (fun v p₁ s₂ h₂ => Sem.wp_mono _ Γ _ (fun c p₃ s₃ h₃ => h₃ Γ p₃ hΓ) (fun _ _ _ h' => h') _ _ (h₂ Γ _ hΓ)) (fun _ _ _ h' => h') _ _ (key Γ p hΓ)
/-- a op b as a value -/
theorem per_cmp {op : CmpOp} {r : R2} (nox : ∀ e s, ¬ X.xe e s) (ho : OpR X (compareOp op) r) (ha : PER X Φ a ta) (hb : PE X b tb) (hm : behindInMarks op b = false) : PER X Φ (.Compare a [op] [b] pos) (tOp r ta tb) := by
  refine ⟨fun pins s σ H L Q I hq => ?_⟩
  rw [eval_Compare1]
  refine wpR_bind (wpR_mono (ha.run pins s σ H L _ I hq) (fun u L1 s1 q => ?_) fun _ _ _ x => x)
  obtain ⟨hL, x, H1, I1, rx, q1⟩ := q
  refine wpR_lift ?_
  have key : wpAny (model X.prog X.w) X.A (eval b X.env) (fun v s2 => wpAny (model X.prog X.w) X.A (compareOp op u v) (fun c s3 => (∀ i b, L1 i b → L i b) ∧ ∃ z H', Inv X pins σ H' s3 ∧ RelV z c ∧ Q z H') (fun _ _ => False) s2) (fun _ _ => False) s1 := by
    refine wpAny_mono (hb.run pins s1 σ H1 _ I1 q1) (fun v s2 ⟨y, H2, I2, r2, q2⟩ => ?_) fun x s' hx => (nox x s' hx).elim
    refine wpAny_mono (ho pins s2 σ H2 x y u v _ I2 rx r2 q2) (fun c s3 ⟨z, H3, I3, r3, q3⟩ => ?_) fun x s' hx => (nox x s' hx).elim
    exact ⟨hL, z, H3, I3, r3, q3⟩
  intro Γ p hΓ
  simp only [markedBehindIn_of_false hm, Sem.wp_bind', Sem.wp_holding, Sem.wp_cmd_standAt, Sem.wp_operate]
  exact Sem.wp_mono _ Γ _ (fun v p₁ s₂ h₂ => h₂ Γ _ hΓ) (fun _ _ _ h' => h') _ _ (key Γ p hΓ)
/-- a and b -/
theorem per_and (nox : ∀ e s, ¬ X.xe e s) (ha : PE X a ta) (hb : PER X Φ b tb) : PER X Φ (.BoolOp .And [a, b] pos) (tAndV ta tb) := by
  refine ⟨fun pins s σ H L Q I hq => ?_⟩
  show wpR X.prog X.w Φ X.A (do
    let v ← eval a X.env
    standAt pos
    let c ← holding [v] (truthy v)
    match BoolOp.And, c with
    | .And, false | .Or, true => pure v
    | _, _ => eval b X.env) _ _ L s
  refine wpR_bindL (wpAny_mono (ha.run pins s σ H _ I hq) (fun v s1 ⟨x, H1, I1, r1, q1⟩ => ?_) fun x s' hx => (nox x s' hx).elim)
  obtain ⟨c, rfl, q1⟩ := q1
  cases r1
  refine wpR_bindL (wpAny_standAt (wpR_bindL (wpAny_holding (wpAny_truthy_bool ?_))))
  cases c with
  | true => exact hb.run pins s1 σ H1 L Q I1 q1
  | false => exact wpR_pure ⟨fun _ _ z => z, .bl false, H1, I1, rfl, q1⟩

/-! ### statements -/
variable {C : Bed X.prog X.w Φ → Prop}
/-- a bed that lets the sleepers go -/
def Lets (C : Bed X.prog X.w Φ → Prop) : Prop := ∀ b, C b → ∀ ys L L' pt, b.TP ys L pt → (∀ i a, L' i a → L i a) → b.TP ys L' pt
theorem sb_evalR {α β : Type} {B : List Frame → Prop} {AB A : Around} {L : Lean'} {s : Shared} {c : Code} {fs : List Frame} {m : Sem α} {f : α → Sem β} {K : β → Sem PySem.Fin} {H : Value → Sem PySem.Fin} {gd : Bool → Bool} {lv : List Value → List Value} {P : Program} {w : World} (hB : Under B AB) (ho : AB.over c fs = A)
    (h : wpR P w Φ A m (fun a L' s' => SB P w Φ B L' s' c ((f a).wrap K H gd lv) fs) (fun _ _ _ => False) L s) : SB P w Φ B L s c ((m >>= f).wrap K H gd lv) fs := by
  rw [Sem.bind_eq_wrap', Sem.wrap_wrap]
  exact h B AB c fs _ _ _ _ hB ho (fun _ _ _ q => q) fun _ _ _ q => q.elim
theorem rs_ifR {test : Expr} {sa sb : List Stmt} {tc : TT} {t u : TGn} (hl : Lets C) (hn0 : ∀ b, C b → b.num = 0) (hc : PTR X Φ test tc) (ha : RSs X C sa t) (hb : RSs X C sb u) : RS X C (.If test sa sb pos) (tGIf tc t u) := by
  refine ⟨fun bd hC n ys L c fs K J gd lv s σ H ip D g hn k hI ht => ?_⟩
  obtain ⟨pt, hT, hdj, I, hsz⟩ := hI
  rw [exec_If]
  refine sb_bind_wrap (bd.under n) (wpAny_standAt ?_)
  refine sb_evalR (bd.under n) g.over (wpR_mono (hc.run _ s σ H L _ I ht) (fun d L1 s1 q => ?_) fun _ _ _ x => x)
  obtain ⟨hL, H1, I1, q1⟩ := q
  have hz : bd.num ≤ s1.gens.size := by rw [hn0 bd hC]; exact Nat.zero_le _
  cases d with
  | true => exact ha.run bd hC n ys L1 c fs K J gd lv s1 σ H1 ip D g hn k ⟨pt, hl bd hC _ _ _ _ hT hL, hdj, I1, hz⟩ q1
  | false => exact hb.run bd hC n ys L1 c fs K J gd lv s1 σ H1 ip D g hn k ⟨pt, hl bd hC _ _ _ _ hT hL, hdj, I1, hz⟩ q1
theorem rs_retR (hl : Lets C) (hn0 : ∀ b, C b → b.num = 0) (he : PER X Φ e te) : RS X C (.Return (some e) pos) (fun D ys σ H => te σ H fun v H1 => D.rt ys v H1) := by
  refine ⟨fun bd hC n ys L c fs K J gd lv s σ H ip D g hn k hI ht => ?_⟩
  obtain ⟨pt, hT, hdj, I, hsz⟩ := hI
  rw [exec_Return_some]
  refine sb_bind_wrap (bd.under n) (wpAny_standAt ?_)
  refine sb_evalR (bd.under n) g.over (wpR_mono (he.run _ s σ H L _ I ht) (fun u L1 s1 q => ?_) fun _ _ _ x => x)
  obtain ⟨hL, v, H1, I1, r1, q1⟩ := q
  exact k n ys L1 s1 (.ret u) hn ⟨v, σ, H1, ⟨pt, hl bd hC _ _ _ _ hT hL, hdj, I1, by rw [hn0 bd hC]; exact Nat.zero_le _⟩, r1, q1⟩
theorem rs_setR {i : Nat} {x : Str} {pos' : Pos} (hl : Lets C) (hn0 : ∀ b, C b → b.num = 0) (hN : X.N.Nodup) (hi : X.N[i]? = some x) (hx : Loc X.env.scope x) (he : PER X Φ e te) (hs : swapsWith e (some (.Name x pos')) pos.line X.env = pure false := by rfl) (hf : X.fn x = true ∨ X.env.scope.names.lookup x = some .local := by first | exact .inl rfl | exact .inr rfl | assumption) :
    RS X C (.Assign [.Name x pos'] e pos) (fun D ys σ H => te σ H fun v H1 => D.nx ys (σ.set i (some v)) H1) := by
  refine ⟨fun bd hC n ys L c fs K J gd lv s σ H ip D g hn k hI ht => ?_⟩
  obtain ⟨pt, hT, hdj, I, hsz⟩ := hI
  rw [exec_Assign_Name X.env x pos' e pos hs]
  refine sb_bind_wrap (bd.under n) (wpAny_standAt ?_)
  refine sb_evalR (bd.under n) g.over (wpR_mono (he.run _ s σ H L _ I ht) (fun u L1 s1 q => ?_) fun _ _ _ x => x)
  obtain ⟨hL, v, H1, I1, r1, q1⟩ := q
  refine sb_bind_wrap (bd.under n) (wpAny_standAt ?_)
  refine sb_bind_wrap (bd.under n) ?_
  rw [g.over]
  refine wpAny_bindName (store_ok I1 hN hi hx r1 (fun s2 I2 => ?_) hf)
  exact k n ys L1 s2 .next hn ⟨_, H1, ⟨pt, hl bd hC _ _ _ _ hT hL, hdj, I2, by rw [hn0 bd hC]; exact Nat.zero_le _⟩, q1⟩
end
end Ra
-- RaM
set_option autoImplicit true
set_option maxRecDepth 512
set_option Elab.async false
set_option linter.all false
set_option maxRecDepth 100000
set_option maxHeartbeats 2000000
/-! RaM: generators made by a call; a for that takes the first item. -/
namespace Ra
open PySem PySem.Spec PyProof.Rows L2 C8

section
variable {X : Cx} {Φ : Outcome → Shared → Prop} {k : Nat} {f C : Addr} {fd : FuncData} {ps : List Str} {sp : SpY} {dvs : List V} {ds : List Value} {x m : Str} {p pos pos' apos : Pos} {o e : Expr} {es : List Expr} {ta : TE} {t : TA}
theorem run_gdef {pins : List (Addr × Obj)} {σ : L2.St} {H : Hp} {s : Shared} {us : List Value} {vs : List V} {M n : Nat} {Dy Q : List V → Hp → Prop} {E1 : Value → Shared → Prop} (F : GDef X.prog X.w Φ X.K X.mg X.base k f fd ps sp) (hr : Room k X.A) (hb : Binds X.K fd ps ds) (hd : Vals dvs ds)
    (I : Inv X pins σ H s) (r : Vals vs us) (h : sp (vs ++ dvs) H M Dy Q) (hn : n ≤ s.gens.size) : wpAny (model X.prog X.w) X.A (call (.ref f) us) (fun u s' => ∃ H1 sc, Inv X pins σ H1 sc ∧ n ≤ sc.gens.size ∧ GMk X.prog X.w Φ X.base k X.stack H1 sc M Dy Q u s') E1 s := by
  have r2 : Vals (vs ++ dvs) (us ++ ds) := r.append hd
  have hl2 : (us ++ ds).length = ps.length := by rw [← r2.length]; exact F.len _ _ _ _ _ h
  refine wpAny_call (codeAny_mono (F.run X.A X.stack s H ⟨us, []⟩ (us ++ ds) (vs ++ dvs) M Dy Q hr I.env0 (hb s us I.kIn hl2) r2 h) fun r s' hq => ?_)
  cases r with
  | error e => exact False.elim hq
  | ok fl =>
    cases fl with
    | ret u => exact ⟨H, s, I, hn, hq⟩
    | next => exact False.elim hq
    | brk => exact False.elim hq
    | cont => exact False.elim hq
/-- f(e, ..) of a generator def -/
theorem pmk_call (F : GDef X.prog X.w Φ X.K X.mg X.base k f fd ps sp) (hr : Room k X.A) (hg : Gl X x) (hm : X.mg x = some (.ref f)) (hk : PySem.W.keepIn X.K (.ref f) = true) (hb : Binds X.K fd ps ds) (hd : Vals dvs ds)
    (ha : PA X (e :: es) t) (hdb : (x == ("__debug__" : Str)) = false := by decide) (he : starEach (e :: es) X.env = (false, eval e X.env) :: starEach es X.env := by rfl) (hpl : (backTo pos' (starEach es X.env)).any (·.1) = false := by rfl) :
    PMk X Φ k (.Call (.Name x p) (e :: es) [] pos') fun σ H M Dy Q => t σ H fun vs H1 => sp (vs ++ dvs) H1 M Dy Q := by
  refine ⟨fun pins s σ H M Dy Q I h => ?_⟩
  refine wpAny_Call_Name_kw (ld_glob I hg hm ?_ hdb)
  refine PySem.W.callWith_K (h₀ := X.base) I.ok.mod.kin hk (GenW.wpAny_gsz (Nat.le_refl _) (wpAny_mono (ha.run pos' pins s σ H _ I h) (fun us s1 ⟨vs, H1, I1, r, q⟩ hz => ⟨I1.kIn, ?_⟩) fun _ _ z _ => z)) he hpl
  exact run_gdef F hr hb hd I1 r q hz
/-- o.m(e, ..) of a generator method -/
theorem pmk_meth {pl : Sem Bool} (ho : PE X o ta) (c : Cls X.K C) (hm : Meth X.K C m f) (F : GDef X.prog X.w Φ X.K X.mg X.base k f fd ps sp) (hr : Room k X.A) (hb : Binds X.K fd ps ds) (hd : Vals dvs ds) (ha : PA X (e :: es) t)
    (hst : starEach (e :: es) X.env = (false, eval e X.env) :: starEach es X.env := by rfl) (hpl : (backTo pos' (starEach es X.env)).any (·.1) = false := by rfl)
    (ht : eval (.Call (.Attribute o m apos) (e :: es) [] pos') X.env = (do
      let ov ← eval o X.env
      standAt apos.atName
      let (f, first) ← holding [ov] (getMethod ov m pl)
      callWith pos' f first (backTo pos' (starEach (e :: es) X.env)) (backToKw pos' (keywordEach [] X.env))) := by rfl) :
    PMk X Φ k (.Call (.Attribute o m apos) (e :: es) [] pos') fun σ H M Dy Q => ta σ H fun x H1 => ∃ a dx fs, x = .ref a ∧ H1 a = some (.ins C dx fs) ∧ fs.lookup m = none ∧ t σ H1 fun vs H2 => sp (x :: (vs ++ dvs)) H2 M Dy Q := by
  refine ⟨fun pins s σ H M Dy Q I h => ?_⟩
  refine PySem.W.methodCall_KW (pl := pl) (GenW.wpAny_gsz (Nat.le_refl _) (wpAny_mono (ho.run pins s σ H _ I h) (fun u s1 ⟨x, H1, I1, rx, a, dx, fs, ex, ea, l, q⟩ hz => ?_) fun _ _ z _ => z)) ht
  subst ex
  obtain rfl : u = Value.ref a := rx
  refine getmeth_ok I1 ea c hm l ?_
  refine PySem.W.callWith_K (first := [.ref a]) (h₀ := X.base) I.ok.mod.kin hm.kp (GenW.wpAny_gsz hz (wpAny_mono (ha.run pos' pins s1 σ H1 _ I1 q) (fun us s2 ⟨vs, H2, I2, r, q2⟩ hz2 => ⟨I2.kIn, ?_⟩) fun _ _ z _ => z)) hst hpl
  exact run_gdef (us := .ref a :: us) (vs := .ref a :: vs) F hr hb hd I2 (.cons rfl r) q2 hz2
end

/-! ### the law's own bed -/
/-- no frame below; what sleeps is pinned -/
def lbed (P : Program) (w : World) (Φ : Outcome → Shared → Prop) (A : Around) (hA : ∀ c, (Ctx.of c []).Woken A) : Bed P w Φ where
  AB := A
  Bn := fun _ base => base = []
  under := fun _ base hb c => by rw [hb]; exact hA c
  N := 0
  num := 0
  Ch := []
  TP := fun ys L pt => (∀ i a, L i a → ∃ o, (a, o) ∈ pt) ∧ ∀ q ∈ pt, q.2.genNumber?.isSome = true
  cover := fun ys L pt _ S hS => by simp at hS
def LBed {P : Program} {w : World} {Φ : Outcome → Shared → Prop} (b : Bed P w Φ) : Prop := ∃ A hA, b = lbed P w Φ A hA
section
variable {X : Cx} {Φ : Outcome → Shared → Prop}
theorem lbed_lets : Lets (LBed (P := X.prog) (w := X.w) (Φ := Φ)) := by
  rintro _ ⟨A, hA, rfl⟩ ys L L' pt ⟨h1, h2⟩ hL
  exact ⟨fun i a z => h1 i a (hL i a z), h2⟩
theorem lbed_num : ∀ b : Bed X.prog X.w Φ, LBed b → b.num = 0 := by
  rintro _ ⟨A, hA, rfl⟩
  rfl
theorem gen_data {o : Obj} (h : o.genNumber?.isSome = true) : ∀ v, o.data ≠ .cell v := fun v q => by
  unfold Obj.genNumber? at h
  rw [q] at h
  split at h
  · rename_i h1 h2
    cases h2
  · rename_i h1 h2
    cases h2
  · rename_i h1 h2
    cases h2
  · cases h
/-- for x in g: .., the first item alone (the body leaves by break or return) -/
def tGFirst (tg : TMk) (g : TG) (tb : TGn) : TGn := fun D ys σ H => ∃ M, M ≤ sizeLine ∧ tg σ H M (fun zs H1 => ∀ x, zs = [x] → g x σ H1 fun σ2 H2 => tb { nx := fun _ _ _ => False, rt := D.rt, bk := D.nx, ct := fun _ _ _ => False } ys σ2 H2) fun zs _ => zs ≠ []
theorem rs_forFirst {k : Nat} {x : Str} {px pos : Pos} {iter : Expr} {body : List Stmt} {tg : TMk} {g : TG} {tb : TGn} (nox : ∀ e s, ¬ X.xe e s) (hr : Room (k + 1) X.A) (hi : PMk X Φ k iter tg) (hg : PG X (.Name x px) g) (hb : RSs X (LBed (P := X.prog) (w := X.w) (Φ := Φ)) body tb)
    (hs : ∀ x, foldedSetIterable iter X.env x = pure x := by intro _; rfl) : RS X (LBed (P := X.prog) (w := X.w) (Φ := Φ)) (.For (.Name x px) iter body [] pos) (tGFirst tg g tb) := by
  refine ⟨fun bd hC n ys L c fs K J gd lv s σ H ip D gc hn kk hI ht => ?_⟩
  obtain ⟨A, hA, rfl⟩ := id hC
  obtain ⟨pt, ⟨hT1, hT2⟩, hdj, I, hsz⟩ := hI
  obtain ⟨M, hM, ht⟩ := ht
  have hB : Under (fun base : List Frame => base = []) A := fun base hb c => by rw [hb]; exact hA c
  have hov : A.over c fs = X.A := gc.over
  rw [exec_For]
  show SB X.prog X.w Φ (fun base => base = []) L s c _ fs
  refine sb_bind_wrap hB (wpAny_standAt ?_)
  refine sb_bind_wrap hB ?_
  rw [hov]
  refine wpAny_mono (hi.run _ s σ H M _ _ I ht) (fun u s1 ⟨H1, sc, Ic, hszc, hG⟩ => ?_) fun x s' hx => (nox x s' hx).elim
  refine sb_bind_wrap hB (wpAny_of_eq (hs u) ?_)
  refine sb_bind_wrap hB (wpAny_standAt ?_)
  obtain ⟨a, gn, ci, rfl, ha1, ha2, hgen, hg1, hgs, hos, hbare, hlim, hkeep, wake⟩ := hG
  refine sb_bind_wrap hB (wpAny_holding (wpAny_pyIter_gen hgen ?_))
  unfold runOwn
  rw [Sem.onRaise_eq_wrap, Sem.wrap_wrap]
  refine sb_call fun p => ?_
  suffices main : ∀ kq : Result → Sem PySem.Fin, (∀ f, kq (.ok f) = K f) → SB X.prog X.w Φ (fun base => base = []) L s1 (.forLoop (.Name x px) (.ref a) body [] X.env) (den (.forLoop (.Name x px) (.ref a) body [] X.env)) (.ret kq none (gd false) (lv []) c p [] :: fs) from main _ fun f => rfl
  intro kq hkq
  have gl := fun (kk : Result → Sem PySem.Fin) (gd' : Bool → Bool) (hgd : gd' false = false) => rc_loop (k := kk) (c' := .forLoop (.Name x px) (.ref a) body [] X.env) (l := lv []) (kp := []) (p := p) gc rfl rfl hgd
  show SB X.prog X.w Φ (fun base => base = []) L s1 _ ((forTurn (.Name x px) (.ref a) body [] X.env).onRaise (fun x => do noteFrame x X.env; theTreesLotGoes x)) _
  rw [Sem.onRaise_eq_wrap]
  unfold forTurn
  refine sb_bind_wrap hB (wpAny_standAt ?_)
  have hovL : A.over (.forLoop (.Name x px) (.ref a) body [] X.env) (.ret kq none (gd false) (lv []) c p [] :: fs) = X.A := (gl kq id rfl).over
  have hT0 : TieOk [] (fun _ pc => pc = []) := ⟨fun _ _ _ S hS => by simp at hS, fun _ pc e q hq => by rw [e] at hq; simp at hq, fun _ pc e q hq => by rw [e] at hq; simp at hq⟩
  have hgo : FGo X.prog X.w Φ gn X.A.in1 _ _ sizeLine (.fresh ci) L (s1.setGen gn .running) :=
    wake X.A.in1 [] (fun _ pc => pc = []) sizeLine L L (s1.setGen gn .running) [] hr.in1 I.ok.frames hT0 hM (fun _ _ z => z) (fun S hS => by simp at hS) (fun b o _ e => e) hos (allBare_setGen hbare rfl) (by rw [setGen_size']; exact (Array.getElem?_eq_some_iff.mp hgs).1) rfl (fun q hq => by simp at hq)
  refine sb_evalR hB hovL (wpR_onRaise (wpR_mono (wpR_genPy hr.hd hlim (by have := hr.dp; show X.A.depth < _; omega) (IsGW.of hgen) hgs hgo (fun m v L1 s2 gs' e hbr hy => ?_) fun L1 s2 h' hf hk => ?_) (fun _ _ _ q => q) fun _ _ _ (q : False) => q.elim))
  · obtain ⟨zs, y, H2, pc, pl, hnz, rv, os2, bare2, lim2, gw2, gsz2, un2, hok2, ha2', hpc, hpin2, hDy, hL1, hpl, _⟩ := hy
    have hz0 : zs = [] := List.length_eq_zero_iff.mp (by omega)
    subst hz0
    have hq := hDy y rfl
    have I2 : Inv X (pt ++ ip) σ H2 (s2.setGen gn gs') := Ic.call' (s' := s2.setGen gn gs') os2 un2 hok2 (allBare_setGen bare2 hbr) (fun b hb => by simp at hb)
    have hsc : ∀ q ∈ pl, sc.heap.objs.size < q.1 := fun q hq => Nat.lt_of_le_of_lt ha1 (hpl q hq).2.2.2
    have hloc : X.env.locals < sc.heap.objs.size := Ic.lt
    have I3 : Inv X ((pl ++ pt) ++ ip) σ H2 (s2.setGen gn gs') := by
      rw [List.append_assoc]
      refine inv_pins I2 fun q hq => ?_
      obtain ⟨q1, q2, q3, q4⟩ := hpl q hq
      refine ⟨q1, q3, fun z => ?_, Ic.nofs (Nat.le_of_lt (hsc q hq)), gen_data q2⟩
      have := hsc q hq
      rw [z] at this
      exact absurd (Nat.lt_trans hloc this) (Nat.lt_irrefl _)
    have hdj2 : ∀ q ∈ pl ++ pt, ∀ r ∈ X.pn ++ ip, q.1 ≠ r.1 := fun q hq r hr => by
      rcases List.mem_append.mp hq with z | z
      · intro e
        have h1 := hsc q z
        rw [e] at h1
        have h2 : sc.heap.get? r.1 = some r.2 := by
          rcases List.mem_append.mp hr with y | y
          · exact (Ic.pin r (List.mem_append_left _ y)).1
          · exact (Ic.pin r (List.mem_append_right _ (List.mem_append_right _ y))).1
        exact absurd (Nat.lt_trans (Heap.lt_size h2) h1) (Nat.lt_irrefl _)
      · exact hdj q z r hr
    have hT3 : (lbed X.prog X.w Φ A hA).TP ys L1 (pl ++ pt) := by
      refine ⟨fun i b z => ?_, fun q hq => ?_⟩
      · rcases hL1 i b z with y | ⟨o, y⟩
        · obtain ⟨o, ho⟩ := hT1 i b y
          exact ⟨o, List.mem_append_right _ ho⟩
        · exact ⟨o, List.mem_append_left _ y⟩
      · rcases List.mem_append.mp hq with z | z
        · exact (hpl q z).2.1
        · exact hT2 q z
    show SB X.prog X.w Φ (fun base => base = []) L1 _ _ ((letOwnedTupleGo (.Name x px) (.ref a) v >>= _).wrap _ _ _ _) _
    refine sb_bind_wrap hB (wpAny_pure ?_)
    refine sb_bind_wrap hB ?_
    rw [hovL]
    refine wpAny_mono (hg.run _ (s2.setGen gn gs') σ H2 y v _ I3 rv hq) (fun _ s6 h6 => ?_) fun x s' hx => (nox x s' hx).elim
    obtain ⟨σ6, H6, I6, q6⟩ := h6
    rw [Sem.bind_eq_wrap', Sem.wrap_wrap]
    refine hb.run (lbed X.prog X.w Φ A hA) hC n ys L1 _ _ _ _ _ _ s6 σ6 H6 ip { nx := fun _ _ _ => False, rt := D.rt, bk := D.nx, ct := fun _ _ _ => False } (gl _ _ rfl) hn (fun n' ys' L' s7 f hn' hs7 => ?_) ⟨pl ++ pt, hT3, hdj2, I6, Nat.zero_le _⟩ q6
    cases f with
    | next => obtain ⟨_, _, _, q⟩ := hs7; exact q.elim
    | cont => obtain ⟨_, _, _, q⟩ := hs7; exact q.elim
    | brk => exact sb_leaf (.ok .next) (by rw [hkq]; exact kk n' ys' L' s7 .next hn' hs7)
    | ret v => exact sb_leaf (.ok (.ret v)) (by rw [hkq]; exact kk n' ys' L' s7 (.ret v) hn' hs7)
  · obtain ⟨zs, H2, pc, hnz, _, _, _, _, _, _, _, _, _, _, hq⟩ := hf
    exact absurd (List.length_eq_zero_iff.mp (by omega)) hq
end
end Ra
-- RaN
set_option autoImplicit true
set_option maxRecDepth 512
set_option Elab.async false
set_option linter.all false
set_option maxRecDepth 100000
set_option maxHeartbeats 2000000
/-! RaN: the law's def on the real machine, the law's row. -/
namespace Ra
open PySem PySem.Spec PyProof.Rows L2 C8

/-- the context of the law's body -/
abbrev lctx (P : Program) (w : World) (K : PySem.W.Frag) (mg : Str → Option Value) (base : Heap) (N : List Str) (qual : Str) (scope : Scope) (f : Addr) (cd : Value) (A : Around) (s : Shared) (H : Hp) : Cx := (cxOf C8.CX0 P w K mg base N qual scope f cd A [] s H C8.E0).nox
/-- what the law's call leaves -/
def LEnd (P : Program) (w : World) (H : Hp) (s : Shared) (Q : VK) (u : Value) (L : Lean') (s' : Shared) : Prop :=
  ∃ v H', s'.os = s.os ∧ AllBare s'.gens ∧ Un [] [] H H' s.heap s'.heap ∧ HOk P w H' s'.heap ∧ RelV v u ∧ Q v H' ∧ ∀ i b, L i b → IsG s'.heap b
/-- the law's def -/
def LFn (P : Program) (w : World) (Φ : Outcome → Shared → Prop) (K : PySem.W.Frag) (mg : Str → Option Value) (base : Heap) (k : Nat) (f : Addr) (fd : FuncData) (ps : List Str) (sp : Sp) : Prop :=
  ∀ (AB A : Around) (hA : ∀ c, (Ctx.of c []).Woken AB) (c₀ : Code) (fs : List Frame) (kq : Result → Sem PySem.Fin) (l : List Value) (p : Pos) (kp : List Value) (s : Shared) (H : Hp) (args : Args) (us : List Value) (vs : List V) (Q : VK),
    AB.over c₀ fs = A → splitAtGen fs = none → fs.any Frame.guarded = false → Room k A → A.guards = some [] → Env0 P w K mg base A [] s H → BindsTo s fd args (ps.zip us) → Vals vs us → sp vs H Q C8.E0 →
    (∀ u L s', LEnd P w H s Q u L s' → SB P w Φ (fun base => base = []) L s' c₀ (kq (.ok (.ret u))) fs) → SB P w Φ (fun base => base = []) (fun _ _ => False) s (.call (.ref f) args) (den (.call (.ref f) args)) (.ret kq none false l c₀ p kp :: fs)
theorem callAny_fn {P : Program} {w : World} {A : Around} {s : Shared} {a : Addr} {args : Args} {o : Obj} {fd : FuncData} {body : List Stmt} {Q : PySem.Fin → Shared → Prop} {E : Value → Shared → Prop} (hroom : A.depth < recursionLimit) (ho : s.heap.get? a = some o)
    (hd' : o.data = .func fd) (hco : fd.scope.isCoroutine = false) (hgen : fd.scope.isGenerator = false) (hbody : fd.body = .stmts body) (hcd : s.heap.CodeRec fd.code fd.qualname)
    (h : wpAny (model P w) A.in1 (bindArgs fd args) (fun binds s₁ => wpAny (model P w) A.in1 (newFunctionEnv fd.scope fd.globals fd.closure binds (fd.qualname ++ ".<locals>.") (some a) fd.code none fd.builtins)
      (fun env s₂ => s₂.heap.NoLimit ∧ Q (.again (.func body env)) s₂) E s₁) E s) : wpAny (model P w) A.in1 (callAny (.ref a) args) Q E s := by
  simp only [callAny]
  refine wpAny_bind (wpAny_load ho ?_)
  obtain ⟨c, oc, vs, tq, hc, hoc, hdc, hq⟩ := hcd
  simp only [hd', callFunction, hco, hgen, hbody, hc]
  rw [hc] at h
  refine wpAny_bind (m := field (.ref c) 1) (wpAny_field hoc hdc hq (wpAny_bind (wpAny_pure ?_)))
  exact wpAny_bind (wpAny_mono h (fun binds s₁ h₁ => wpAny_bind (wpAny_mono h₁ (fun env s₂ h₂ => wpAny_bind (wpAny_enterFrame h₂.1 hroom (wpAny_pure h₂.2))) fun _ _ h' => h')) fun _ _ h' => h')
theorem lfn_of {P : Program} {w : World} {Φ : Outcome → Shared → Prop} {K : PySem.W.Frag} {mg : Str → Option Value} {base : Heap} {k : Nat} {f : Addr} {name qual : Str} {params : Arguments} {body : List Stmt} {scope : Scope} {dV kV doc pm cdv ct oc : Value} {an od : Option Addr}
    {osl : Array (Option Value)} {N ps : List Str} {sp : Sp} (lk : K.lookup f = some ⟨oc, od, .func (PySem.W.fnOf name qual params body scope dV kV doc pm an cdv ct), osl⟩) (hcd : PySem.W.codeIn K cdv qual = true) (S : FnScope N ps scope)
    (len : ∀ vs H Q E, sp vs H Q E → vs.length = ps.length)
    (hbody : ∀ (A : Around) (s : Shared) (H : Hp) (vs : List V) (Q : VK), Room k (A.deeper (envOfC qual scope s.heap.objs.size f cdv)) → (A.deeper (envOfC qual scope s.heap.objs.size f cdv)).guards = some [] → sp vs H Q C8.E0 →
      ∃ t, RSs (lctx P w K mg base N qual scope f cdv A s H) (LBed (P := P) (w := w) (Φ := Φ)) body t ∧ t { nx := fun _ _ H' => Q .non H', rt := fun _ v H' => Q v H' } [] (start N vs) H) :
    LFn P w Φ K mg base (k + 1) f (PySem.W.fnOf name qual params body scope dV kV doc pm an cdv ct) ps sp := by
  intro AB A hA c₀ fs kq l p kp s H args us vs Q hov hsp hgd hr hgu e0 hb r hq hk
  have hl := len _ _ _ _ hq
  have KX : K.In s.heap := e0.mod.kin.keeps fun b o e => (e0.bs b o e).1
  have lim : s.heap.NoLimit := e0.mod.nolimit.keeps fun b o e => (e0.bs b o e).1
  have hB : Under (fun base : List Frame => base = []) AB := fun base hb c => by rw [hb]; exact hA c
  have hkind : ∀ y ∈ ps.zip us, scope.names.lookup y.1 = some .local ∨ (scope.names.lookup y.1 = some .cell ∧ ((cellsFrom (s.heap.objs.size + 1) scope.names []).lookup y.1).isSome = true) := fun ⟨n, v⟩ hy => by
    rcases S.par n (List.of_mem_zip hy).1 with q | q
    · exact .inl q
    · exact .inr ⟨q, PySem.W.cellsFrom_some _ _ _ (.inl q)⟩
  rw [← wrap_id (den (.call (.ref f) args))]
  refine sb_wrap hB ?_
  rw [over_under, hov]
  show wpAny (model P w) A.in1 (callAny (.ref f) args) _ _ s
  refine callAny_fn hr.depth (KX _ _ lk) rfl S.co S.gen rfl (PySem.W.codeRec_of KX hcd) (hb _ _ _ _ ?_)
  refine wpAny_newFunctionEnv_cells S.kind hkind fun env he s1 x => ?_
  subst he
  refine ⟨lim.keeps x.toInCall.keep, sb_again rfl (sb_func ?_)⟩
  obtain ⟨t, ht, hq⟩ := hbody A s H vs Q (hr.deeper _) hgu hq
  have I0 : Inv (cxOf C8.CX0 P w K mg base N qual scope f cdv A [] s H C8.E0) [] (start N vs) H s1 := inv_start S hr.hd e0 hl r x
  have I1 : Inv (lctx P w K mg base N qual scope f cdv A s H) [] (start N vs) H s1 := I0.wish _
  have hRC : RC (lctx P w K mg base N qual scope f cdv A s H) (lbed P w Φ AB hA) (.func body (envOfC qual scope s.heap.objs.size f cdv)) (.ret kq none false l c₀ p kp :: fs) id := by
    refine ⟨?_, ?_, ?_, rfl, fun _ _ h => h⟩
    · show AB.over _ _ = A.deeper _
      rw [over_under, hov]
      rfl
    · show (splitAtGen fs).map _ = none
      rw [hsp]; rfl
    · show (false || fs.any Frame.guarded) = false
      rw [hgd]; rfl
  refine ht.run (lbed P w Φ AB hA) ⟨AB, hA, rfl⟩ 0 [] (fun _ _ => False) _ _ _ _ id id s1 (start N vs) H [] _ hRC rfl (fun n ys L s' fl hn hs => ?_) ⟨[], ⟨fun i a z => z.elim, fun q hq => (nomatch hq)⟩, fun q hq => (nomatch hq), I1, Nat.zero_le _⟩ hq
  have fin : ∀ {v : V} {u : Value} {σ' : L2.St} {H' : Hp}, RI (lctx P w K mg base N qual scope f cdv A s H) (lbed P w Φ AB hA) [] ys L σ' H' s' → RelV v u → Q v H' → LEnd P w H s Q u L s' := fun {v u σ' H'} hI rv q => by
    obtain ⟨pt, ⟨hT1, hT2⟩, _, I', _⟩ := hI
    refine ⟨v, H', I'.os, I'.bare, I'.base, I'.hok, rv, q, fun i b z => ?_⟩
    obtain ⟨o, ho⟩ := hT1 i b z
    exact ⟨o, (I'.pin (b, o) (List.mem_append_right _ (List.mem_append_left _ ho))).1, hT2 _ ho⟩
  show SB P w Φ (fun base => base = []) L s' _ (leafOf (.ok (.ret _))) _
  cases fl with
  | next =>
    obtain ⟨σ', H', hI, q⟩ := hs
    exact sb_leaf (.ok (.ret .none)) (hk _ L s' (fin (v := .non) hI rfl q))
  | brk => obtain ⟨_, _, _, q⟩ := hs; exact q.elim
  | cont => obtain ⟨_, _, _, q⟩ := hs; exact q.elim
  | ret u =>
    obtain ⟨v, σ', H', hI, rv, q⟩ := hs
    exact sb_leaf (.ok (.ret u)) (hk _ L s' (fin hI rv q))

/-- the law's call, at the heap behind the top -/
theorem law_callR {P : Program} {w : World} {Φ : Outcome → Shared → Prop} {K : PySem.W.Frag} {mg mb : Str → Option Value} {k : Nat} {fa a : Addr} {fd : FuncData} {x : Str} {sp : Sp} {s₁ : Shared} {vs : List Value} {ns : List Int} {AB A : Around} {c₀ : Code} {fs : List Frame} {kq : Result → Sem PySem.Fin} {l : List Value} {p : Pos} {kp : List Value}
    (KX : K.In s₁.heap) (hns : s₁.heap.Ns mainGlobals mg) (hb : s₁.heap.Ns builtinsNs mb) (hbb : ∀ x : Str, x ≠ "__name__" → mb x = bootBuiltins x) (hlim : s₁.heap.NoLimit) (hg : s₁.gens = #[])
    (ha : s₁.heap.get? a = some { cls := .type "list", data := .seq vs.toArray }) (hi : IntsAre vs ns) (hl : ns.length ≤ sizeLine)
    (F : ∀ base : Heap, K.In base → base.Ns mainGlobals mg → LFn P w Φ K mg base k fa fd [x] sp) (hbind : ∀ (s : Shared) (u : Value), BindsTo s fd ⟨[u], []⟩ [(x, u)])
    (hsp : ∀ H : Hp, Only H → SqL K H a (ns.map V.int) → sp [.ref a] H (fun v _ => v = .bl true) C8.E0)
    (hA : ∀ c, (Ctx.of c []).Woken AB) (hov : AB.over c₀ fs = A) (hsplit : splitAtGen fs = none) (hgd : fs.any Frame.guarded = false) (hr : Room k A) (hgu : A.guards = some []) (hfr : A.frames = some [])
    (hk : ∀ L s', OldK s₁.heap s'.heap → s'.os = s₁.os → AllBare s'.gens → (∀ i b, L i b → IsG s'.heap b) → SB P w Φ (fun base => base = []) L s' c₀ (kq (.ok (.ret (.bool true)))) fs) :
    SB P w Φ (fun base => base = []) (fun _ _ => False) s₁ (.call (.ref fa) ⟨[.ref a], []⟩) (den (.call (.ref fa) ⟨[.ref a], []⟩)) (.ret kq none false l c₀ p kp :: fs) := by
  have rv := vals_ints hi
  have lenV := hi.length
  have core : ∀ H : Hp, Only H → SqL K H a (ns.map V.int) → HOk P w H s₁.heap → (∀ b, H b ≠ none → b = a) → (H a ≠ none → K.lookup a = none) →
      SB P w Φ (fun base => base = []) (fun _ _ => False) s₁ (.call (.ref fa) ⟨[.ref a], []⟩) (den (.call (.ref fa) ⟨[.ref a], []⟩)) (.ret kq none false l c₀ p kp :: fs) := by
    intro H hO hS hok hA' hK
    have atA : ∀ {b : Addr} {u : HO}, H b = some u → b = a := fun {b u} q => hA' b (by rw [q]; exact fun z => nomatch z)
    have seqA : ∀ {b : Addr} {o : Obj}, s₁.heap.get? b = some o → (∀ es ep, o.data = .dict es ep → H b = none) := fun {b o} e es ep d => by
      cases q : H b with
      | none => rfl
      | some u =>
        rw [atA q, ha] at e
        cases e
        have z : Data.seq vs.toArray _ = Data.dict es ep := d
        cases z
    have nsK : ∀ {b : Addr} {m : Str → Option Value}, s₁.heap.Ns b m → (hidT s₁.heap H).Ns b m := fun {b m} ⟨o, es, ep, e, d, r⟩ => ⟨o, es, ep, hidT_get e (seqA e es ep d), d, r⟩
    have hKb : K.In (hidT s₁.heap H) := fun b o e => hidT_get (KX b o e) (by
      cases q : H b with
      | none => rfl
      | some u =>
        have e' := atA q
        subst e'
        rw [hK (by rw [q]; exact fun z => nomatch z)] at e
        cases e)
    have hM : Mod K mg (hidT s₁.heap H) := ⟨hKb, nsK hns, ⟨mb, nsK hb, hbb⟩, let ⟨mc, h1, h2⟩ := hlim; ⟨mc, nsK h1, h2⟩⟩
    have e0 : Env0 P w K mg (hidT s₁.heap H) A [] s₁ H := ⟨hfr, hM, fun b o e => of_hidT e, Nat.le_of_eq (hidT_size _ _), trivial, fun b hb => (nomatch hb), hok, .of_eq hg⟩
    refine F _ hKb (nsK hns) AB A hA c₀ fs kq l p kp s₁ H ⟨[.ref a], []⟩ [.ref a] [.ref a] _ hov hsplit hgd hr hgu e0 (hbind s₁ (.ref a)) (.cons rfl .nil) (hsp H hO hS) fun u L s' h => ?_
    obtain ⟨v, H', os, bare, un, hok', r', q, hL⟩ := h
    have q' : v = .bl true := q
    subst q'
    obtain rfl : u = Value.bool true := r'
    refine hk L s' (OldK.of_keep fun b o e => ?_) os bare hL
    rcases hO b with z | ⟨ob, xs, z⟩
    · exact un.keep b o e z (fun y => nomatch y) (fun y => nomatch y)
    · have z2 := un.frzs b ob _ z
      obtain ⟨e1, _⟩ := hok b _ z
      obtain ⟨e2, _⟩ := hok' b _ z2
      rw [e] at e1
      cases e1
      exact e2
  cases hk' : K.lookup a with
  | some o =>
    have e := KX a o hk'
    rw [ha] at e
    cases e
    exact core (fun _ => none) (fun _ => .inl rfl) (.inr ⟨_, vs.toArray, _, hk', rfl, rfl, rfl, by rw [List.size_toArray, lenV]; exact hl, by simpa using rv⟩) (fun b u z => by cases z) (fun b z => absurd rfl z) fun z => absurd rfl z
  | none =>
    refine core (fun b => if b = a then some (.frz { cls := .type "list", data := .seq vs.toArray } (.lst (ns.map V.int))) else none) (fun b => ?_) (.inl (.inr ⟨{ cls := .type "list", data := .seq vs.toArray }, if_pos rfl⟩)) (fun b u z => ?_) (fun b z => ?_) fun _ => hk'
    · by_cases hb : b = a
      · exact .inr ⟨_, _, if_pos hb⟩
      · exact .inl (if_neg hb)
    · by_cases hb : b = a
      · have z' := (if_pos hb).symm.trans z
        cases z'
        subst hb
        exact ⟨ha, by rw [List.length_map]; exact hl, vs, _, rv, ha⟩
      · have z' := (if_neg hb).symm.trans z
        cases z'
    · by_cases hb : b = a
      · exact hb
      · exact absurd (if_neg hb) z
end Ra
-- RaO
set_option autoImplicit true
set_option maxRecDepth 512
set_option Elab.async false
set_option linter.all false
set_option maxRecDepth 100000
set_option maxHeartbeats 2000000
/-! RaO: a law's row by the real machine's runs. -/
namespace Ra
open PySem PySem.Spec PyProof.Rows L2 C8 PySem.W PySem.Calls HandSHeadRun

/-- nothing stands below the caller -/
def A0 : Around := { depth := 0, frames := some [], guards := some [], units := 0 }
theorem a0_woken (c : Code) : (Ctx.of c []).Woken A0 :=
  ⟨⟨rfl, Nat.le_refl _, fun l hl => by cases hl; rfl, fun g hg => by cases hg; rfl, Nat.le_refl _⟩, rfl⟩
abbrev callerC : Code := .builtin "claim.caller" {}
theorem clr_empty {s : Shared} (h : s.gens = #[]) : clr s = s := by
  obtain ⟨hp, g, d, t, o⟩ := s
  have h' : g = #[] := h
  subst h'
  simp [clr]
theorem callFrom_real {c : ClaimW} {tree : List Value → Sem PySem.Fin} {w : World} {s : Shared} {free : Addr → Prop} {gens : Prop} {kept : Heap → Prop} (hz : s.asleep) (hgens : s.gens = #[])
    (hspec : ∀ args, c.pre args = true → WData.layableAll args = true → ∀ ord : List DictEntry → List DictEntry, (∀ l, (ord l).Perm l) →
      ∃ vs s₁, layAllW c.records (classAt s.heap) w.params ord args s = some (vs, s₁) ∧
        ∀ Φ : Outcome → Shared → Prop, (∀ v s' s'', c.Ends s args vs s₁ (.ok (.ret v)) s' → s'.os = s.os → kept s'.heap → s''.heap = s'.heap → s''.os = s'.os → Φ (.done (.ret v)) s'') → Fin c.prog w Φ (fun _ _ => False) s₁ ⟨tree vs, callerC, default, []⟩) :
    c.CallFrom (fun vs => ⟨tree vs, callerC, default, []⟩) w free gens kept s := by
  intro args hpre hlay ord hord
  obtain ⟨vs, s₁, hlaid, hrun⟩ := hspec args hpre hlay ord hord
  have hal := layAllW_rest _ _ _ hlaid
  have hg1 : s₁.gens = #[] := hal.1.trans hgens
  obtain ⟨n, o, s'', hn, hlife, v, s', rfl, h1, h2, h3, h4, h5⟩ := hrun (fun o s'' => ∃ v s', o = .done (.ret v) ∧ c.Ends s args vs s₁ (.ok (.ret v)) s' ∧ s'.os = s.os ∧ kept s'.heap ∧ s''.heap = s'.heap ∧ s''.os = s'.os)
    (fun v s' s'' a1 a2 a3 a4 a5 => ⟨v, s', rfl, a1, a2, a3, a4, a5⟩) s₁ ⟨tree vs, callerC, default, []⟩ (by rw [clr_empty hg1]) rfl (Shared.asleep_of_life hal.2.2.2 hz) (fun i k l c p fs e => by rw [hg1] at e; simp at e)
  have hends := h1.congr h4
  refine ⟨vs, s₁, hlaid, n, _, s'', hn, ?_, fun _ i x hx => by rw [hgens] at hx; simp at hx, by rw [h4]; exact h3, by rw [hlife.trans hal.2.2.2], Shared.rest_eq (h5.trans h2)⟩
  rcases hends with ⟨v', e, d1, d2, d3, d4, d5⟩ | ⟨e, ob, cls, he, _⟩
  · cases e
    exact .inl ⟨v, rfl, d1, d2, d3, fun b o y _ => d4 b o y, d5⟩
  · cases he

/-- the law's def, called with a script -/
def WalkR (l : OpenLaw) (n : Nat) (q : Program) (loose : List Str) (XP : (Str → Option Value) → Heap → Prop) (YP : World → Heap → Prop) (d : DefRec) : Prop :=
  ∀ (w : World) (s₀ s₁ : Shared) (mg mb : Str → Option Value) (fa : Addr) (o : Obj) (pm cd doc : Value) (a : Addr) (vs : List Value) (ns : List Int), Ground q loose [] XP w s₀ mg mb s₁.heap → YP w s₁.heap →
    s₁.heap.get? fa = some o → o.data = .func (docDef d.name d.params d.body d.scope pm cd doc) → s₁.heap.CodeRec cd d.name → mg d.name = some (.ref fa) → s₁.heap.get? a = some { cls := .type "list", data := .seq vs.toArray } → IntsAre vs ns → ns.length ≤ n → (∀ k ∈ ns, Builtin.Int.intBits k ≤ 1048576) → s₁.gens = #[] →
    ∀ (Φ : Outcome → Shared → Prop) (kq : Result → Sem PySem.Fin) (lv : List Value) (p : Pos) (kp : List Value),
      (∀ L s', OldK s₁.heap s'.heap → s'.os = s₁.os → AllBare s'.gens → (∀ i b, L i b → IsG s'.heap b) → SB l.prog w Φ (fun base => base = []) L s' callerC (kq (.ok (.ret (.bool true)))) []) →
      SB l.prog w Φ (fun base => base = []) (fun _ _ => False) s₁ (.call (.ref fa) ⟨[.ref a], []⟩) (den (.call (.ref fa) ⟨[.ref a], []⟩)) [.ret kq none false lv callerC p kp]
theorem holds_real {l : OpenLaw} {n : Nat} {q : Program} {loose : List Str} {Xt : Shared → Bool} {XP : (Str → Option Value) → Heap → Prop} {α : Type} {Yf : Shared → α} {Ya : World → α} {YP : World → Heap → Prop} {d : DefRec} {kwd : List (Str × Expr)} {N : Nat}
    (left : LeftO l.prog q loose Xt Yf Ya N) (hY : ∀ w s, Yf s = Ya w → YP w s.heap) (hYk : ∀ w h h', YP w h → (∀ b o, h.get? b = some o → h'.get? b = some o) → YP w h')
    (hX : ∀ s, Xt s = true → XP (s.heap.nsMap mainGlobals) s.heap) (hXk : ∀ mg h h', XP mg h → (∀ b o, h.get? b = some o → h'.get? b = some o) → XP mg h')
    (hdef : defOf q l.row.name = some (d, kwd)) (hkw0 : kwd = []) (hp : l.row.prog.theDef l.row.name = some (d.params, d.body, d.scope)) (hk : kwWritten? d.params.kwonlyargs d.params.kw_defaults = some kwd) (hRf : ∀ s, Xt s = true → RecFacts l.row.records s.heap)
    (k1 : l.row.wellSaid = true) (ok : (chainsOk q && opensWell l.row.prog && (frees l.row.toRowW && l.row.within.isEmpty)) = true) (hb : l.row.prog.bare) (hw : l.row.toRowW.promised) (hn : l.most = some n) (hdf : d.params.defaults = [])
    (call : WalkR l n q loose XP YP d) : l.row.Holds := by
  obtain ⟨ok1, k5⟩ := Bool.and_eq_true_iff.mp ok
  obtain ⟨hch, o1⟩ := Bool.and_eq_true_iff.mp ok1
  obtain ⟨k5, k6⟩ := Bool.and_eq_true_iff.mp k5
  obtain ⟨hsame, hu, ha, hap, hm⟩ := frees_parts k5
  refine ⟨k1, hw, ⟨hb, o1, rfl⟩, hw.witness, fun w => ⟨(left.behind hX hch w).1, fun s' hs' => ?_⟩⟩
  obtain ⟨s₀, hf, hg0, s, hT, hz, hgens, hg, G00, y⟩ := (left.behind (XP := fun mg h => XP mg h ∧ RecFacts l.row.records h) (fun s hs => ⟨hX s hs, hRf s hs⟩) hch w).2 s' hs'
  have G0 : Ground q loose [] XP w s (s.heap.nsMap mainGlobals) (s.heap.nsMap builtinsNs) s.heap := ⟨G00.T, G00.B, G00.D, G00.TE, G00.TD, G00.W, G00.X.1, G00.cls, G00.has, G00.apart, G00.once, G00.K⟩
  have RF := G00.X.2
  refine ⟨s₀, hf, hg0, s, hT, fun n hn => ?_, RF.1, RF.2.1, ?_⟩
  · obtain rfl : n = l.row.name := by
      have hn' : n ∈ [l.row.name] := hn
      exact List.mem_singleton.mp hn'
    exact pinned_of_view hg G0 hdef hp hk
  have hgens' : s.gens = #[] := Array.eq_empty_of_size_eq_zero (beq_iff_eq.mp hgens)
  have G : Ground q loose l.row.records XP w s _ _ s.heap := RF.ground G0
  refine callFrom_real (c := l.row.toRowW.claim) hz hgens' fun args hpre hlay ord hord => ?_
  obtain ⟨⟨vs, s₁⟩, hlaid⟩ := Option.isSome_iff_exists.mp (layAllW_isSome (P := w.params) (ord := ord) G.has args l.row.args s (pre_splitW hpre).1)
  have keeps := layAllW_keeps _ _ _ hlaid
  have hal := layAllW_rest _ _ _ hlaid
  obtain ⟨as, hrd, hin, hold⟩ := reads_layAllW hord _ _ _ hlaid hlay s₁.heap (fun _ _ e => e)
  have L : Laid l.row.records w s s₁ args vs as := ⟨⟨ord, hord, hlaid⟩, hrd, hin, hold, keeps, hal.1.trans hgens', hal.2.2.1⟩
  have G₁ := G.keeps hXk keeps
  have hi := ident_freeW hu ha hap
  have hwi : l.row.toRowW.claim.within = [] := List.isEmpty_iff.mp k6
  refine ⟨vs, s₁, hlaid, fun Φ hΦ => ?_⟩
  obtain ⟨fa, o, pm, cd, doc, dV, kV, h1, h2, h3, h4, h5⟩ := G₁.fn hdef
  obtain rfl : dV = .none := Dflts.none h5 hdf
  subst hkw0
  obtain rfl : kV = .none := Dflts.noKw h5
  obtain ⟨a, vls, ns, rfl, rfl, hobj, hints, hlen⟩ := Att.script_of hn hpre L.well
  have hGr : Ground q loose [] XP w s _ _ s₁.heap := G₁
  have run := call w s s₁ _ _ fa o pm cd doc a vls ns hGr (hYk _ _ _ (hY w s y) keeps) h2 (fd_plain h3) h4 (defOf_name hdef ▸ h1) hobj hints hlen (Att.script_bits hlay) L.gens Φ
  have go : SB l.prog w Φ (fun base => base = []) (fun _ _ => False) s₁ callerC (do match ← nsGet mainNs l.row.name with
      | some f => do ret (← PySem.call f [.ref a])
      | none => unsupported "claim.caller:no-such-global") [] := by
    refine sb_bind (A := A0) (fun base hb c => by rw [hb]; exact a0_woken c) (wpAny_nsGet G₁.T.g ?_)
    rw [h1]
    show SB l.prog w Φ _ _ s₁ callerC (PySem.call (.ref fa) [.ref a] >>= fun v => ret v) []
    rw [Sem.bind_eq_wrap']
    refine sb_call fun p => ?_
    refine run _ _ p [] fun L' s' q1 q2 q3 q4 => ?_
    intro base hbase p'
    rw [hbase]
    refine fin_done (r := .ok (.ret (.bool true))) q4 (leftWithCleanup_false_of_bare q3) fun s'' e1 e2 => ?_
    have g : GoodWG l.row.toRowW.claim (classAt s.heap) (ExcName.means s.heap) [WData.list (ns.map WData.int)] s₁ (.ok (.ret (.bool true))) s' :=
      ⟨.inl ⟨.bool true, .bool true, [], rfl, fun _ => rfl, .bool true, Att.post_true l _, fun _ => ⟨List.Pairwise.nil, fun _ hm => (nomatch hm)⟩⟩, q1, q2, q3⟩
    have z := g.laid (c := l.row.toRowW.claim) hsame hwi hi L
    exact hΦ (.bool true) s' s'' z.1 z.2.1 (fun q => ⟨namesKept_of hT hg _ keeps g.2.1.old, noTable (R := l.row.records) (by show (!l.writes || true) = true; exact Bool.or_true _) q⟩) e1 e2
  exact go [] rfl default
end Ra
-- RaP
set_option autoImplicit true
set_option maxRecDepth 512
set_option Elab.async false
set_option linter.all false
set_option maxRecDepth 100000
set_option maxHeartbeats 2000000
/-! RaP: the head of a law by the real machine's runs. -/
namespace Ra
open PySem PySem.Spec PyProof.Rows L2 C8 PySem.W PySem.Calls HandSHeadRun

theorem head_real {l : OpenLaw} {n : Nat} {q : Program} {H : Hook} {ob : SharedT → H.α} {M : Nat} {loose : List PySem.Str} {d : DefRec} (ho : ∀ s : SharedT, ob s = H.obs s.abs)
    (e : opening l.row.prog = plainProg l.row.prog.main.scope.names) (f : ∀ s, fenceModules? l.row.prog s = some s) (run : ∀ w, RunEq l.row q H ob M loose w)
    (hdef : defOf q l.row.name = some (d, [])) (hp : l.row.prog.theDef l.row.name = some (d.params, d.body, d.scope)) (hk : kwWritten? d.params.kwonlyargs d.params.kw_defaults = some [])
    (k1 : l.row.wellSaid = true) (ok : (chainsOk q && opensWell l.row.prog && (frees l.row.toRowW && l.row.within.isEmpty)) = true) (hb : l.row.prog.bare) (hw : l.row.toRowW.promised) (hn : l.most = some n) (hdf : d.params.defaults = [])
    (call : WalkR l n q loose (XL q []) H.says d) : l.row.Holds := by
  have left : LeftO l.row.prog q loose (fun s => xlAt q [] s && recOk l.row.toRowW.records s) H.obs H.val (M + 600) true :=
    left_one (M := M) e (Nat.ble_eq_true_of_le (by omega)) f (Nat.ble_eq_true_of_le (by omega)) fun w os => by
      have z := run w os
      have eo : ob = fun s => H.obs s.abs := funext ho
      rw [eo] at z
      simp only [endQ_eq, seenQ_eq]
      exact z
  exact holds_real (l := l) (q := q) (loose := loose) (XP := XL q []) (YP := H.says) (d := d) left H.of H.keeps (fun s z => xl_of s (Bool.and_eq_true_iff.mp z).1) XL.keeps hdef rfl hp hk (fun s z => recFacts_of (Bool.and_eq_true_iff.mp z).2) k1 ok hb hw hn hdf call

/-- where the caller's call stands -/
def AC : Around := A0.over callerC []
theorem ac_room : Room 100 AC := ⟨rfl, by decide +kernel, by decide +kernel⟩
/-- the goal of the head, from the def's own promise over every base -/
theorem walkR_of {l : OpenLaw} {n k : Nat} {q : Program} {loose : List Str} {XP : (Str → Option Value) → Heap → Prop} {YP : World → Heap → Prop} {d : DefRec} {x : Str} (hn2 : n ≤ sizeLine) (hr : Room k AC)
    (F : ∀ (w : World) (mg : Str → Option Value) (fa : Addr) (h : Heap), YP w h → h.Ns mainGlobals mg → mg d.name = some (.ref fa) →
      ∃ (K : PySem.W.Frag) (fd : FuncData) (sp : Sp), K.In h ∧ (∀ (s : Shared) (u : Value), BindsTo s fd ⟨[u], []⟩ [(x, u)]) ∧
        (∀ (H : Hp) (a : Addr) (ns : List Int), ns.length ≤ n → (∀ z ∈ ns, Builtin.Int.intBits z ≤ 1048576) → Only H → SqL K H a (ns.map V.int) → sp [.ref a] H (fun v _ => v = .bl true) C8.E0) ∧
        ∀ (Φ : Outcome → Shared → Prop) (base : Heap), K.In base → base.Ns mainGlobals mg → LFn l.prog w Φ K mg base k fa fd [x] sp) : WalkR l n q loose XP YP d := by
  intro w s₀ s₁ mg mb fa o pm cd doc a vs ns G Y ho hd hcd hmg hobj hints hlen hbits hg Φ kq lv p kp hk
  obtain ⟨K, fd, sp, KX, hb, hsp, hF⟩ := F w mg fa _ Y G.T.g hmg
  exact law_callR (A := AC) KX G.T.g G.T.b G.T.builtins G.T.nolimit hg hobj hints (Nat.le_trans hlen hn2) (hF Φ) hb (fun H hO hS => hsp H a ns hlen hbits hO hS) a0_woken rfl rfl rfl hr rfl rfl hk
end Ra
-- T43
set_option autoImplicit true
set_option maxRecDepth 512
set_option Elab.async false
set_option linter.all false
set_option maxRecDepth 100000
set_option maxHeartbeats 1000000
/-! T18: the text's names (printed by gen_head.py), and the bundles of a def's facts. -/
namespace Bw
open PySem PySem.Spec PyProof.Rows L2 C8
def top (i : Nat) : Stmt := PySem.Challenge.pw_bondwords_k43_whole_any_shortest_word.main.body.getD i (.Pass ⟨0, 0, 0, 0⟩)
abbrev s_BadBonds_init : Stmt := inClass (top 3) 0
def d_BadBonds_init : He.DefD := ⟨("BadBonds", some "__init__"), "__init__", "BadBonds.__init__", defArgs s_BadBonds_init, defBody s_BadBonds_init, defScope s_BadBonds_init, [], []⟩
abbrev s_BadWord_init : Stmt := inClass (top 4) 0
def d_BadWord_init : He.DefD := ⟨("BadWord", some "__init__"), "__init__", "BadWord.__init__", defArgs s_BadWord_init, defBody s_BadWord_init, defScope s_BadWord_init, [], []⟩
abbrev s_BadNumber_init : Stmt := inClass (top 5) 0
def d_BadNumber_init : He.DefD := ⟨("BadNumber", some "__init__"), "__init__", "BadNumber.__init__", defArgs s_BadNumber_init, defBody s_BadNumber_init, defScope s_BadNumber_init, [], []⟩
abbrev s_TooGreat_init : Stmt := inClass (top 6) 0
def d_TooGreat_init : He.DefD := ⟨("TooGreat", some "__init__"), "__init__", "TooGreat.__init__", defArgs s_TooGreat_init, defBody s_TooGreat_init, defScope s_TooGreat_init, [], []⟩
abbrev s_is_whole : Stmt := top 12
def d_is_whole : He.DefD := ⟨("is_whole", none), "is_whole", "is_whole", defArgs s_is_whole, defBody s_is_whole, defScope s_is_whole, [], []⟩
abbrev s_is_among : Stmt := top 13
def d_is_among : He.DefD := ⟨("is_among", none), "is_among", "is_among", defArgs s_is_among, defBody s_is_among, defScope s_is_among, [], []⟩
abbrev s_is_list : Stmt := top 14
def d_is_list : He.DefD := ⟨("is_list", none), "is_list", "is_list", defArgs s_is_list, defBody s_is_list, defScope s_is_list, [], []⟩
abbrev s_is_bond : Stmt := top 15
def d_is_bond : He.DefD := ⟨("is_bond", none), "is_bond", "is_bond", defArgs s_is_bond, defBody s_is_bond, defScope s_is_bond, [], []⟩
abbrev s_need_rows : Stmt := top 16
def d_need_rows : He.DefD := ⟨("need_rows", none), "need_rows", "need_rows", defArgs s_need_rows, defBody s_need_rows, defScope s_need_rows, [], []⟩
abbrev s_Bonds_init : Stmt := inClass (top 17) 1
def d_Bonds_init : He.DefD := ⟨("Bonds", some "__init__"), "__init__", "Bonds.__init__", defArgs s_Bonds_init, defBody s_Bonds_init, defScope s_Bonds_init, [], []⟩
abbrev s_Bonds_len : Stmt := inClass (top 17) 2
def d_Bonds_len : He.DefD := ⟨("Bonds", some "__len__"), "__len__", "Bonds.__len__", defArgs s_Bonds_len, defBody s_Bonds_len, defScope s_Bonds_len, [], []⟩
abbrev s_Bonds_eq : Stmt := inClass (top 17) 3
def d_Bonds_eq : He.DefD := ⟨("Bonds", some "__eq__"), "__eq__", "Bonds.__eq__", defArgs s_Bonds_eq, defBody s_Bonds_eq, defScope s_Bonds_eq, [], []⟩
abbrev s_Bonds_need_letter : Stmt := inClass (top 17) 4
def d_Bonds_need_letter : He.DefD := ⟨("Bonds", some "need_letter"), "need_letter", "Bonds.need_letter", defArgs s_Bonds_need_letter, defBody s_Bonds_need_letter, defScope s_Bonds_need_letter, [], []⟩
abbrev s_Bonds_bond : Stmt := inClass (top 17) 5
def d_Bonds_bond : He.DefD := ⟨("Bonds", some "bond"), "bond", "Bonds.bond", defArgs s_Bonds_bond, defBody s_Bonds_bond, defScope s_Bonds_bond, [], []⟩
abbrev s_Bonds_weight : Stmt := inClass (top 17) 6
def d_Bonds_weight : He.DefD := ⟨("Bonds", some "weight"), "weight", "Bonds.weight", defArgs s_Bonds_weight, defBody s_Bonds_weight, defScope s_Bonds_weight, [], []⟩
abbrev s_need_word : Stmt := top 18
def d_need_word : He.DefD := ⟨("need_word", none), "need_word", "need_word", defArgs s_need_word, defBody s_need_word, defScope s_need_word, [], []⟩
abbrev s_start : Stmt := top 20
def d_start : He.DefD := ⟨("start", none), "start", "start", defArgs s_start, defBody s_start, defScope s_start, [], []⟩
abbrev s_pressed : Stmt := top 21
def d_pressed : He.DefD := ⟨("pressed", none), "pressed", "pressed", defArgs s_pressed, defBody s_pressed, defScope s_pressed, [], []⟩
abbrev s_row_by : Stmt := top 22
def d_row_by : He.DefD := ⟨("row_by", none), "row_by", "row_by", defArgs s_row_by, defBody s_row_by, defScope s_row_by, [], []⟩
abbrev s_row_of : Stmt := top 23
def d_row_of : He.DefD := ⟨("row_of", none), "row_of", "row_of", defArgs s_row_of, defBody s_row_of, defScope s_row_of, [], []⟩
abbrev s_below : Stmt := top 24
def d_below : He.DefD := ⟨("below", none), "below", "below", defArgs s_below, defBody s_below, defScope s_below, [], []⟩
abbrev s_undone : Stmt := top 25
def d_undone : He.DefD := ⟨("undone", none), "undone", "undone", defArgs s_undone, defBody s_undone, defScope s_undone, [], []⟩
abbrev s_shortest_by : Stmt := top 26
def d_shortest_by : He.DefD := ⟨("shortest_by", none), "shortest_by", "shortest_by", defArgs s_shortest_by, defBody s_shortest_by, defScope s_shortest_by, [], []⟩
abbrev s_lasts : Stmt := top 27
def d_lasts : He.DefD := ⟨("lasts", none), "lasts", "lasts", defArgs s_lasts, defBody s_lasts, defScope s_lasts, [], []⟩
abbrev s_is_under : Stmt := top 30
def d_is_under : He.DefD := ⟨("is_under", none), "is_under", "is_under", defArgs s_is_under, defBody s_is_under, defScope s_is_under, [], []⟩
abbrev s_is_below : Stmt := top 31
def d_is_below : He.DefD := ⟨("is_below", none), "is_below", "is_below", defArgs s_is_below, defBody s_is_below, defScope s_is_below, [], []⟩
abbrev s_listed : Stmt := top 32
def d_listed : He.DefD := ⟨("listed", none), "listed", "listed", defArgs s_listed, defBody s_listed, defScope s_listed, [], []⟩
abbrev s_rows_below : Stmt := top 33
def d_rows_below : He.DefD := ⟨("rows_below", none), "rows_below", "rows_below", defArgs s_rows_below, defBody s_rows_below, defScope s_rows_below, [], []⟩
abbrev s_count_below : Stmt := top 34
def d_count_below : He.DefD := ⟨("count_below", none), "count_below", "count_below", defArgs s_count_below, defBody s_count_below, defScope s_count_below, [], []⟩
abbrev s_need_led : Stmt := top 37
def d_need_led : He.DefD := ⟨("need_led", none), "need_led", "need_led", defArgs s_need_led, defBody s_need_led, defScope s_need_led, [], []⟩
abbrev s_Counter_init : Stmt := inClass (top 39) 0
def d_Counter_init : He.DefD := ⟨("Counter", some "__init__"), "__init__", "Counter.__init__", defArgs s_Counter_init, defBody s_Counter_init, defScope s_Counter_init, [], []⟩
abbrev s_Counter_ways : Stmt := inClass (top 39) 1
def d_Counter_ways : He.DefD := ⟨("Counter", some "ways"), "ways", "Counter.ways", defArgs s_Counter_ways, defBody s_Counter_ways, defScope s_Counter_ways, [], []⟩
abbrev s_Counter_words : Stmt := inClass (top 39) 2
def d_Counter_words : He.DefD := ⟨("Counter", some "words"), "words", "Counter.words", defArgs s_Counter_words, defBody s_Counter_words, defScope s_Counter_words, [], []⟩
abbrev s_other_row : Stmt := top 40
def d_other_row : He.DefD := ⟨("other_row", none), "other_row", "other_row", defArgs s_other_row, defBody s_other_row, defScope s_other_row, [], []⟩
abbrev s_shortest_words : Stmt := top 41
def d_shortest_words : He.DefD := ⟨("shortest_words", none), "shortest_words", "shortest_words", defArgs s_shortest_words, defBody s_shortest_words, defScope s_shortest_words, [], []⟩
abbrev s_L_mixed : Stmt := top 43
def d_L_mixed : He.DefD := ⟨("_law_mixed", none), "_law_mixed", "_law_mixed", defArgs s_L_mixed, defBody s_L_mixed, defScope s_L_mixed, [], []⟩
abbrev s_L_folded : Stmt := top 44
def d_L_folded : He.DefD := ⟨("_law_folded", none), "_law_folded", "_law_folded", defArgs s_L_folded, defBody s_L_folded, defScope s_L_folded, [], []⟩
abbrev s_L_draw : Stmt := top 45
def d_L_draw : He.DefD := ⟨("_law_draw", none), "_law_draw", "_law_draw", defArgs s_L_draw, defBody s_L_draw, defScope s_L_draw, [], []⟩
abbrev s_L_begun : Stmt := top 46
def d_L_begun : He.DefD := ⟨("_law_begun", none), "_law_begun", "_law_begun", defArgs s_L_begun, defBody s_L_begun, defScope s_L_begun, [], []⟩
abbrev s_L_table : Stmt := top 47
def d_L_table : He.DefD := ⟨("_law_table", none), "_law_table", "_law_table", defArgs s_L_table, defBody s_L_table, defScope s_L_table, [], []⟩
abbrev s_L_weight : Stmt := top 48
def d_L_weight : He.DefD := ⟨("_law_weight", none), "_law_weight", "_law_weight", defArgs s_L_weight, defBody s_L_weight, defScope s_L_weight, [], []⟩
abbrev s_L_pressed : Stmt := top 49
def d_L_pressed : He.DefD := ⟨("_law_pressed", none), "_law_pressed", "_law_pressed", defArgs s_L_pressed, defBody s_L_pressed, defScope s_L_pressed, [], []⟩
abbrev s_L_row : Stmt := top 50
def d_L_row : He.DefD := ⟨("_law_row", none), "_law_row", "_law_row", defArgs s_L_row, defBody s_L_row, defScope s_L_row, [], []⟩
abbrev s_L_back : Stmt := top 51
def d_L_back : He.DefD := ⟨("_law_back", none), "_law_back", "_law_back", defArgs s_L_back, defBody s_L_back, defScope s_L_back, [], []⟩
abbrev s_L_least : Stmt := top 52
def d_L_least : He.DefD := ⟨("_law_least", none), "_law_least", "_law_least", defArgs s_L_least, defBody s_L_least, defScope s_L_least, [], []⟩
abbrev s_L_word : Stmt := top 53
def d_L_word : He.DefD := ⟨("_law_word", none), "_law_word", "_law_word", defArgs s_L_word, defBody s_L_word, defScope s_L_word, [], []⟩
abbrev s_L_under : Stmt := top 54
def d_L_under : He.DefD := ⟨("_law_under", none), "_law_under", "_law_under", defArgs s_L_under, defBody s_L_under, defScope s_L_under, [], []⟩
abbrev s_L_rows_by : Stmt := top 55
def d_L_rows_by : He.DefD := ⟨("_law_rows_by", none), "_law_rows_by", "_law_rows_by", defArgs s_L_rows_by, defBody s_L_rows_by, defScope s_L_rows_by, [], []⟩
abbrev s_law : Stmt := top 56
def d_law : He.DefD := ⟨("law", none), "law", "law", defArgs s_law, defBody s_law, defScope s_law, [], []⟩
def fn : List He.DefD := [d_BadBonds_init, d_BadWord_init, d_BadNumber_init, d_TooGreat_init, d_is_whole, d_is_among, d_is_list, d_is_bond, d_need_rows, d_Bonds_init, d_Bonds_len, d_Bonds_eq, d_Bonds_need_letter, d_Bonds_bond, d_Bonds_weight, d_need_word, d_start, d_pressed, d_row_by, d_row_of, d_below, d_undone, d_shortest_by, d_lasts, d_is_under, d_is_below, d_listed, d_rows_below, d_count_below, d_need_led, d_Counter_init, d_Counter_ways, d_Counter_words, d_other_row, d_shortest_words, d_L_mixed, d_L_folded, d_L_draw, d_L_begun, d_L_table, d_L_weight, d_L_pressed, d_L_row, d_L_back, d_L_least, d_L_word, d_L_under, d_L_rows_by, d_law]
def loose0 : List PySem.Str := ["_wall", "__name__", "BondError", "BadBonds", "BadWord", "BadNumber", "TooGreat", "MOST_LETTERS", "MOST_WORD", "KINDS", "WEIGHTS", "is_whole", "is_among", "is_list", "is_bond", "need_rows", "Bonds", "need_word", "start", "pressed", "row_by", "row_of", "below", "undone", "shortest_by", "lasts", "MOST_LISTED", "is_under", "is_below", "listed"]
def loose1 : List PySem.Str := ["rows_below", "count_below", "MOST_LED", "need_led", "Counter", "other_row", "shortest_words", "_law_mixed", "_law_folded", "_law_draw", "_law_begun", "_law_table", "_law_weight", "_law_pressed", "_law_row", "_law_back", "_law_least", "_law_word", "_law_under", "_law_rows_by"]
def loose : List PySem.Str := loose0 ++ loose1
def lawAt : Nat := 56
/-- a def of the module, under its name -/
structure GD (K : PySem.W.Frag) (mg : Str → Option Value) (x : Str) (st : Stmt) : Prop where
  ex : ∃ f fd, FunD K x x (defArgs st) (defBody st) (defScope st) [] [] f fd ∧ mg x = some (.ref f)
/-- a method of the class C -/
structure MD (K : PySem.W.Frag) (C : Addr) (m qual : Str) (st : Stmt) : Prop where
  ex : ∃ f fd, FunD K m qual (defArgs st) (defBody st) (defScope st) [] [] f fd ∧ Meth K C m f
section
variable {P : Program} {w : World} {K : PySem.W.Frag} {mg : Str → Option Value} {base : Heap}
theorem cal_of {x : Str} {st : Stmt} {N ps : List Str} {k : Nat} {sp : Sp} (G : GD K mg x st) (S : FnScope N ps (defScope st))
    (b : ∀ (kV doc pm : Value) (an : Option Addr) (cdv ct : Value) (us : List Value), us.length = ps.length → bindArgs (PySem.W.fnOf x x (defArgs st) (defBody st) (defScope st) .none kV doc pm an cdv ct) ⟨us, []⟩ = pure (ps.zip us))
    (len : ∀ vs H Q E, sp vs H Q E → vs.length = ps.length)
    (hbody : ∀ (f : Addr) (cdv : Value) (A : Around) (outer : List Env) (s : Shared) (H : Hp) (vs : List V) (Q : VK) (E : XK), Room k (A.deeper (envOfC x (defScope st) s.heap.objs.size f cdv)) → sp vs H Q E →
      ∃ t, PSs (cxOf C8.CX0 P w K mg base N x (defScope st) f cdv A outer s H E).nox (defBody st) t ∧ t { nx := fun _ H' => Q .non H', rt := Q } (start N vs) H) : Cal P w K mg base (k + 1) x sp [] := by
  obtain ⟨f, fd, F, hm⟩ := G.ex
  refine ⟨f, fd, ps, [], F.ok S len (fun cdv A outer s H vs Q E hr hs => ?_), hm, F.kp, F.bindsN b, .nil⟩
  obtain ⟨t, h, q⟩ := hbody f cdv A outer s H vs Q E hr hs
  exact ⟨t, h.nox, q⟩
end
end Bw
-- WkA
set_option autoImplicit true
set_option maxRecDepth 512
set_option Elab.async false
set_option linter.all false
set_option maxRecDepth 100000
set_option maxHeartbeats 1000000
/-! WkA: is_whole, is_among, is_list. -/
namespace Bw
open PySem PySem.Spec PyProof.Rows L2 C8
section
variable {P : Program} {w : World} {K : PySem.W.Frag} {mg : Str → Option Value} {base : Heap}
def spWhole : Sp := fun vs H Q _ => ∃ n : Int, vs = [.int n] ∧ Q (.bl true) H
def spAmong : Sp := fun vs H Q _ => ∃ n lo hi : Int, vs = [.int n, .int lo, .int hi] ∧ Q (.bl (decide (lo ≤ n ∧ n ≤ hi))) H
/-- a list or a tuple -/
theorem Same.tup {K : PySem.W.Frag} {H H' : Hp} {a : Addr} {xs : List V} (e : Same H H') (h : SqT K H a xs) : SqT K H' a xs := by
  rcases h with (h | ⟨o, h⟩) | h
  · exact .inl (.inl (e _ _ h))
  · exact .inl (.inr ⟨o, e _ _ h⟩)
  · exact .inr h
theorem same_upd {H : Hp} {p : Addr} {o : HO} (h : H p = none) : Same H (upd H p o) := fun b x e => by
  rw [upd_ne (ne_of_none e h)]
  exact e
def SqA (K : PySem.W.Frag) (H : Hp) (a : Addr) (xs : List V) : Prop := SqL K H a xs ∨ SqT K H a xs
theorem SqA.same {H H' : Hp} {a : Addr} {xs : List V} (h : SqA K H a xs) (s : Same H H') : SqA K H' a xs := h.elim (fun z => .inl (s.seq z)) (fun z => .inr (Same.tup s z))
theorem tyx_L {H : Hp} {a : Addr} {xs : List V} (h : SqL K H a xs) : TyX K H (.ref a) (.type "list") := by
  rcases h with (h | ⟨o, h⟩) | ⟨o, its, n, h, c, _⟩
  · exact .base (.lst h)
  · exact .base (.frz h)
  · exact .kList h c
theorem tyx_T {H : Hp} {a : Addr} {xs : List V} (h : SqT K H a xs) : TyX K H (.ref a) (.type "tuple") := by
  rcases h with (h | ⟨o, h⟩) | ⟨o, its, n, h, c, _⟩
  · exact .base (.tup h)
  · exact .fTuple h
  · exact .kTuple h c
def spIsList (K : PySem.W.Frag) : Sp := fun vs H Q _ => ∃ (a : Addr) (xs : List V), vs = [.ref a] ∧ SqA K H a xs ∧ ∀ H', Same H H' → Q (.bl true) H'
theorem ok_is_whole (G : GD K mg "is_whole" s_is_whole) (m1 : mg "isinstance" = none) (m2 : mg "int" = none) (m3 : mg "bool" = none) : Cal P w K mg base 1 "is_whole" spWhole [] := by
  refine cal_of (N := ["value"]) (ps := ["value"]) G ⟨rfl, rfl, rfl, by decide +kernel, rfl, by decide +kernel, by decide +kernel⟩ (fun _ _ _ _ _ _ us hl => match us, hl with | [_], _ => rfl) (fun vs H Q E h => ?_) (fun f cdv A outer s H vs Q E hr h => ?_)
  · obtain ⟨n, rfl, _⟩ := h
    rfl
  · obtain ⟨n, rfl, q⟩ := h
    refine ⟨_, pss_one (ps_ret (pe_and (pe_callB call_isi (by rfl) m1 boot_isinstance (pa_cons (pv 0) (pa_cons (pe_bltn (v := .ty "int") (by rfl) m2 boot_int rfl) pa_nil)))
      (pe_one (pe_not (pe_callB call_isi (by rfl) m1 boot_isinstance (pa_cons (pv 0) (pa_cons (pe_bltn (v := .ty "bool") (by rfl) m3 boot_bool rfl) pa_nil))))))), ?_⟩
    refine ⟨.int n, rfl, .int n, .ty "int", .type "int", .type "int", true, rfl, .ty "int", .base (.int n), kit_ty (by decide +kernel), true, rfl, ?_⟩
    refine ⟨.int n, rfl, .int n, .ty "bool", .type "int", .type "bool", false, rfl, .ty "bool", .base (.int n), kit_ty (by decide +kernel), false, rfl, ?_⟩
    exact q
theorem ok_is_among (G : GD K mg "is_among" s_is_among) (c1 : Cal P w K mg base 1 "is_whole" spWhole []) : Cal P w K mg base 2 "is_among" spAmong [] := by
  refine cal_of (N := ["value", "least", "most"]) (ps := ["value", "least", "most"]) G ⟨rfl, rfl, rfl, by decide +kernel, rfl, by decide +kernel, by decide +kernel⟩ (fun _ _ _ _ _ _ us hl => match us, hl with | [_, _, _], _ => rfl) (fun vs H Q E h => ?_) (fun f cdv A outer s H vs Q E hr h => ?_)
  · obtain ⟨n, _, _, rfl, _⟩ := h
    rfl
  · obtain ⟨n, lo, hi, rfl, q⟩ := h
    refine ⟨_, pss_one (ps_ret (pe_and (pe_c c1 hr (by decide) (by rfl) (pa_cons (pv 0) pa_nil)) (pe_one (pe_chain op_le op_le (pv 1) (pv 0) (pv 2))))), ?_⟩
    refine ⟨.int n, rfl, n, rfl, true, rfl, ?_⟩
    refine ⟨.int lo, rfl, .int n, rfl, lo, n, rfl, rfl, _, rfl, ?_⟩
    by_cases h1 : lo ≤ n
    · rw [show decide (lo ≤ n) = true from decide_eq_true h1]
      refine ⟨.int hi, rfl, n, hi, rfl, rfl, ?_⟩
      show Q (.bl (decide (n ≤ hi))) H
      rw [show decide (n ≤ hi) = decide (lo ≤ n ∧ n ≤ hi) from decide_eq_decide.mpr ⟨fun z => ⟨h1, z⟩, fun z => z.2⟩]
      exact q
    · rw [show decide (lo ≤ n) = false from decide_eq_false h1]
      rw [show decide (lo ≤ n ∧ n ≤ hi) = false from decide_eq_false fun z => h1 z.1] at q
      exact q
theorem ok_is_list (G : GD K mg "is_list" s_is_list) (m1 : mg "isinstance" = none) (m2 : mg "list" = none) (m3 : mg "tuple" = none) : Cal P w K mg base 1 "is_list" (spIsList K) [] := by
  refine cal_of (N := ["value"]) (ps := ["value"]) G ⟨rfl, rfl, rfl, by decide +kernel, rfl, by decide +kernel, by decide +kernel⟩ (fun _ _ _ _ _ _ us hl => match us, hl with | [_], _ => rfl) (fun vs H Q E h => ?_) (fun f cdv A outer s H vs Q E hr h => ?_)
  · obtain ⟨a, _, rfl, _⟩ := h
    rfl
  · obtain ⟨a, xs, rfl, hs, q⟩ := h
    refine ⟨_, pss_one (ps_ret (pe_callB call_isiT (by rfl) m1 boot_isinstance (pa_cons (pv 0) (pa_cons (pe_tup (pa_cons (pe_bltn (v := .ty "list") (by rfl) m2 boot_list rfl) (pa_cons (pe_bltn (v := .ty "tuple") (by rfl) m3 boot_tuple rfl) pa_nil))) pa_nil)))), ?_⟩
    refine ⟨.ref a, rfl, (by show 2 ≤ sizeLine; decide), fun t ht => ?_⟩
    have sm : Same H (upd H t (.tup [.ty "list", .ty "tuple"])) := same_upd ht
    rcases hs.same sm with hs | hs
    · exact ⟨.ref a, t, _, .type "list", [.type "list", .type "tuple"], true, rfl, upd_same, .cons (.ty "list") (.cons (.ty "tuple") .nil), tyx_L hs, kitAny_cons (b := true) (kit_ty (by decide +kernel)) (fun z => nomatch z) (fun _ => rfl), q _ sm⟩
    · exact ⟨.ref a, t, _, .type "tuple", [.type "list", .type "tuple"], true, rfl, upd_same, .cons (.ty "list") (.cons (.ty "tuple") .nil), tyx_T hs, kitAny_cons (kit_ty (r := false) (by decide +kernel)) (fun _ => kitAny_cons (b := true) (kit_ty (by decide +kernel)) (fun z => nomatch z) (fun _ => rfl)) (fun _ => rfl), q _ sm⟩
end
end Bw
-- WkB
set_option autoImplicit true
set_option maxRecDepth 512
set_option Elab.async false
set_option linter.all false
set_option maxRecDepth 100000
set_option maxHeartbeats 1000000
/-! WkB: tables; is_bond, need_rows. -/
namespace Bw
open PySem PySem.Spec PyProof.Rows L2 C8
/-- the bonds as the table holds them -/
def tv (S : Sys) (i j : Nat) : Int := if i = j then 1 else (S.m i j : Int)
def wts : List (Int × List Int) := [(2, [0, 0]), (3, [1, 1]), (4, [1, 2]), (6, [1, 3]), (0, [2, 2])]
/-- the weights are those that WEIGHTS tells -/
def Wt (S : Sys) : Prop := ∀ a b, a < b → b < S.n → wts.lookup (S.m a b : Int) = some [S.w a b, S.w b a]
/-- a table in the heap: a list or tuple of lists or tuples -/
def TbA (K : PySem.W.Frag) (H : Hp) (a : Addr) (S : Sys) : Prop := ∃ as : List Addr, as.length = S.n ∧ SqA K H a (as.map V.ref) ∧ ∀ i b, as[i]? = some b → SqA K H b ((List.range S.n).map fun j => V.int (tv S i j))
theorem TbA.same {K : PySem.W.Frag} {H H' : Hp} {a : Addr} {S : Sys} (h : TbA K H a S) (s : Same H H') : TbA K H' a S := by
  obtain ⟨as, e, h1, h2⟩ := h
  exact ⟨as, e, h1.same s, fun i b q => (h2 i b q).same s⟩
theorem atI_map {xs : List V} {i : Nat} {v : V} (h : xs[i]? = some v) : atI xs (i : Int) = some v := atI_nat h
theorem range_at {n i : Nat} {f : Nat → V} (h : i < n) : ((List.range n).map f)[i]? = some (f i) := by
  rw [List.getElem?_map, List.getElem?_range h]
  rfl
/-- a row of the table, an item of a row -/
theorem TbA.row {K : PySem.W.Frag} {H : Hp} {a : Addr} {S : Sys} (h : TbA K H a S) : ∃ as : List Addr, as.length = S.n ∧ SqA K H a (as.map V.ref) ∧ ∀ i, i < S.n → ∃ b, (as.map V.ref)[i]? = some (V.ref b) ∧ SqA K H b ((List.range S.n).map fun j => V.int (tv S i j)) := by
  obtain ⟨as, e, h1, h2⟩ := h
  refine ⟨as, e, h1, fun i hi => ?_⟩
  have q : as[i]? = some (as[i]'(by omega)) := List.getElem?_eq_getElem (by omega)
  exact ⟨as[i]'(by omega), by rw [List.getElem?_map, q]; rfl, h2 i _ q⟩
theorem tv_kind {S : Sys} {i j : Nat} (hi : i < S.n) (hj : j < S.n) (h : i ≠ j) : tv S i j ∈ [(2 : Int), 3, 4, 6, 0] := by
  unfold tv
  rw [if_neg h]
  rcases S.kind i j hi hj h with ⟨e, _⟩ | ⟨e, _⟩ | ⟨e, _⟩ | ⟨e, _⟩ | ⟨e, _⟩ | ⟨e, _⟩ | ⟨e, _⟩ <;> rw [e] <;> decide
theorem tv_sym {S : Sys} {i j : Nat} (hi : i < S.n) (hj : j < S.n) : tv S i j = tv S j i := by
  unfold tv
  by_cases h : i = j
  · rw [if_pos h, if_pos h.symm]
  · rw [if_neg h, if_neg (Ne.symm h), S.msymm hi hj h]
theorem in_kinds {x : Int} (h : x ∈ [(2 : Int), 3, 4, 6, 0]) : inV (.int x) ([(2 : Int), 3, 4, 6, 0].map V.int) = true := by
  have h2 : x = 2 ∨ x = 3 ∨ x = 4 ∨ x = 6 ∨ x = 0 := by simpa using h
  rcases h2 with rfl | rfl | rfl | rfl | rfl <;> decide
section
variable {P : Program} {w : World} {K : PySem.W.Frag} {mg : Str → Option Value} {base : Heap}
def spIsBond (K : PySem.W.Frag) : Sp := fun vs H Q _ => ∃ (a : Addr) (S : Sys) (i j : Nat), vs = [.ref a, .int (i : Nat), .int (j : Nat)] ∧ TbA K H a S ∧ i < S.n ∧ j < S.n ∧ Q (.bl true) H
theorem ix_any {H : Hp} {b : Addr} {xs : List V} {i : Nat} {v : V} {Q : VK} (h : SqA K H b xs) (e : xs[i]? = some v) (q : Q v H) : rIx K (.ref b) (.int (i : Nat)) H Q := by
  rcases h with h | h
  · exact .inl ⟨b, xs, _, v, rfl, rfl, h, atI_nat e, q⟩
  · exact .inr (.inl ⟨b, xs, _, v, rfl, rfl, h, atI_nat e, q⟩)
theorem ok_is_bond {aK : Addr} (G : GD K mg "is_bond" s_is_bond) (c1 : Cal P w K mg base 1 "is_whole" spWhole []) (c2 : Cal P w K mg base 2 "is_among" spAmong []) (mk : mg "KINDS" = some (.ref aK)) (hk : ∀ H, SqT K H aK ([(2 : Int), 3, 4, 6, 0].map V.int)) :
    Cal P w K mg base 3 "is_bond" (spIsBond K) [] := by
  refine cal_of (N := ["rows", "one", "other", "value"]) (ps := ["rows", "one", "other"]) G ⟨rfl, rfl, rfl, by decide +kernel, rfl, by decide +kernel, by decide +kernel⟩ (fun _ _ _ _ _ _ us hl => match us, hl with | [_, _, _], _ => rfl) (fun vs H Q E h => ?_) (fun f cdv A outer s H vs Q E hr h => ?_)
  · obtain ⟨a, _, _, _, rfl, _⟩ := h
    rfl
  · obtain ⟨a, S, i, j, rfl, hT, hi, hj, q⟩ := h
    have nd : (["rows", "one", "other", "value"] : List Str).Nodup := by decide +kernel
    refine ⟨_, pss_cons (ps_set (i := 3) nd rfl (.inl rfl) (pe_ix ix_seq (pe_ix ix_seq (pv 0) (pv 1) (fun _ _ => rfl)) (pv 2) (fun _ _ => rfl)))
      (pss_cons (ps_if (pt_cmpR op_eq (pv 1) (pv 2) (nomark _)) (pss_one (ps_ret (pe_c c2 hr (by decide) (by rfl) (pa_cons (pv 3) (pa_cons pe_int (pa_cons pe_int pa_nil)))))) pss_nil)
      (pss_one (ps_ret (pe_and (pe_c c1 hr (by decide) (by rfl) (pa_cons (pv 3) pa_nil)) (pe_and (pe_cmpR op_in_seq (pv 3) (pe_glob (v := .ref aK) (by rfl) mk rfl) (by rfl))
        (pe_one (pe_or (pe_cmpR op_lt (pv 1) (pv 2) (nomark _)) (pe_one (pe_cmpR op_eq (pv 3) (pe_ix ix_seq (pe_ix ix_seq (pv 0) (pv 2) (fun _ _ => rfl)) (pv 1) (fun _ _ => rfl)) (nomark _)))))))))), ?_⟩
    obtain ⟨as, el, hA, hR⟩ := hT.row
    obtain ⟨b, eb, hb⟩ := hR i hi
    obtain ⟨b2, eb2, hb2⟩ := hR j hj
    refine ⟨.ref a, rfl, .int (i : Nat), rfl, ix_any hA eb ⟨.int (j : Nat), rfl, ix_any hb (range_at hj) ?_⟩⟩
    refine ⟨.int (i : Nat), rfl, .int (j : Nat), rfl, rfl, _, rfl, ite2 (fun e => ?_) (fun e => ?_)⟩
    · have e1 : i = j := by
        have := V.int.inj (of_decide_eq_true e)
        omega
      subst e1
      refine ⟨.int (tv S i i), rfl, _, _, _, rfl, ?_⟩
      rw [show decide ((1 : Int) ≤ tv S i i ∧ tv S i i ≤ 1) = true by unfold tv; rw [if_pos rfl]; decide]
      exact q
    · have e1 : i ≠ j := fun z => e (decide_eq_true (by rw [z]))
      refine ⟨.int (tv S i j), rfl, _, rfl, true, rfl, ?_⟩
      refine ⟨.int (tv S i j), rfl, aK, _, rfl, .inr (hk _), rfl, by decide, true, by rw [in_kinds (tv_kind hi hj e1)]; rfl, ?_⟩
      refine ⟨.int (i : Nat), rfl, .int (j : Nat), rfl, _, _, rfl, rfl, _, rfl, ?_⟩
      by_cases h : ((i : Nat) : Int) < ((j : Nat) : Int)
      · rw [decide_eq_true h]
        exact q
      · rw [decide_eq_false h]
        refine ⟨.int (tv S i j), rfl, .ref a, rfl, .int (j : Nat), rfl, ix_any hA eb2 ⟨.int (i : Nat), rfl, ix_any hb2 (range_at hi) ⟨rfl, ?_⟩⟩⟩
        rw [decide_eq_true (show V.int (tv S i j) = V.int (tv S j i) by rw [tv_sym hi hj])]
        exact q
end
end Bw
-- WkC
set_option autoImplicit true
set_option maxRecDepth 512
set_option Elab.async false
set_option linter.all false
set_option maxRecDepth 100000
set_option maxHeartbeats 1000000
/-! WkC: need_rows. -/
namespace Bw
open PySem PySem.Spec PyProof.Rows L2 C8
/-- a list of lists -/
def TbL (K : PySem.W.Frag) (H : Hp) (a : Addr) (S : Sys) : Prop := ∃ as : List Addr, as.length = S.n ∧ SqL K H a (as.map V.ref) ∧ ∀ i b, as[i]? = some b → SqL K H b ((List.range S.n).map fun j => V.int (tv S i j))
theorem TbL.any {K : PySem.W.Frag} {H : Hp} {a : Addr} {S : Sys} (h : TbL K H a S) : TbA K H a S := by
  obtain ⟨as, e, h1, h2⟩ := h
  exact ⟨as, e, .inl h1, fun i b q => .inl (h2 i b q)⟩
theorem TbL.same {K : PySem.W.Frag} {H H' : Hp} {a : Addr} {S : Sys} (h : TbL K H a S) (s : Same H H') : TbL K H' a S := by
  obtain ⟨as, e, h1, h2⟩ := h
  exact ⟨as, e, s.seq h1, fun i b q => s.seq (h2 i b q)⟩
theorem TbL.len {K : PySem.W.Frag} {H : Hp} {a : Addr} {S : Sys} (h : TbL K H a S) : LenV K (.ref a) H S.n := by
  obtain ⟨as, e, h1, _⟩ := h
  exact .inl ⟨_, h1, by rw [List.length_map, e]⟩
section
variable {P : Program} {w : World} {K : PySem.W.Frag} {mg : Str → Option Value} {base : Heap}
def spNeedRows (K : PySem.W.Frag) : Sp := fun vs H Q _ => ∃ (a : Addr) (S : Sys), vs = [.ref a] ∧ TbL K H a S ∧ 1 ≤ S.n ∧ S.n ≤ 6 ∧ ∀ H', Same H H' → Q .non H'
theorem ok_need_rows (G : GD K mg "need_rows" s_need_rows) (c1 : Cal P w K mg base 1 "is_list" (spIsList K) []) (c2 : Cal P w K mg base 3 "is_bond" (spIsBond K) []) (m1 : mg "len" = none) (m2 : mg "range" = none) {u : Value} (m3 : mg "MOST_LETTERS" = some u) (hu : RelV (.int 6) u) :
    Cal P w K mg base 4 "need_rows" (spNeedRows K) [] := by
  refine cal_of (N := ["rows", "row", "one", "other"]) (ps := ["rows"]) G ⟨rfl, rfl, rfl, by decide +kernel, rfl, by decide +kernel, by decide +kernel⟩ (fun _ _ _ _ _ _ us hl => match us, hl with | [_], _ => rfl) (fun vs H Q E h => ?_) (fun f cdv A outer s H vs Q E hr h => ?_)
  · obtain ⟨a, _, rfl, _⟩ := h
    rfl
  · obtain ⟨a, S, rfl, hT, h1, h6, q⟩ := h
    have nd : (["rows", "row", "one", "other"] : List Str).Nodup := by decide +kernel
    have ln : ∀ (i : Nat), True := fun _ => trivial
    refine ⟨_, pss_cons (ps_if (PW.pt (pw_or (pt_not (pt_val (pe_c c1 hr (by decide) (by rfl) (pa_cons (pv 0) pa_nil)))) (pw_or1 (pt_cmpR op_eq (pe_callB call_len (by rfl) m1 boot_len (pa_cons (pv 0) pa_nil)) pe_int (nomark _))))) (pss_one ps_never) pss_nil)
      (pss_cons (ps_if (pt_cmpR op_gt (pe_callB call_len (by rfl) m1 boot_len (pa_cons (pv 0) pa_nil)) (pe_glob (v := .int 6) (by rfl) m3 hu) (nomark _)) (pss_one ps_never) pss_nil)
      (pss_cons (ps_for PassesOwn.never rfl (pi_list (pv 0)) (pg_name (i := 1) nd rfl (.inl rfl))
        (pss_one (ps_if (PW.pt (pw_or (pt_not (pt_val (pe_c c1 hr (by decide) (by rfl) (pa_cons (pv 1) pa_nil)))) (pw_or1 (pt_cmpR op_ne (pe_callB call_len (by rfl) m1 boot_len (pa_cons (pv 1) pa_nil)) (pe_callB call_len (by rfl) m1 boot_len (pa_cons (pv 0) pa_nil)) (nomark _))))) (pss_one ps_never) pss_nil)))
      (pss_one (ps_for PassesOwn.never rfl (pi_range1 (by rfl) m2 (pa_cons (pe_callB call_len (by rfl) m1 boot_len (pa_cons (pv 0) pa_nil)) pa_nil)) (pg_name (i := 2) nd rfl (.inl rfl))
        (pss_one (ps_for PassesOwn.never rfl (pi_range1 (by rfl) m2 (pa_cons (pe_callB call_len (by rfl) m1 boot_len (pa_cons (pv 0) pa_nil)) pa_nil)) (pg_name (i := 3) nd rfl (.inl rfl))
          (pss_one (ps_if (pt_not (pt_val (pe_c c2 hr (by decide) (by rfl) (pa_cons (pv 0) (pa_cons (pv 2) (pa_cons (pv 3) pa_nil)))))) (pss_one ps_never) pss_nil)))))))), ?_⟩
    obtain ⟨as, el, hA, hB⟩ := id hT
    -- not a list, or empty
    refine ⟨.ref a, rfl, a, _, rfl, .inl hA, fun H1 s1 => ⟨true, rfl, ?_⟩⟩
    refine ⟨.ref a, rfl, .ref a, S.n, rfl, (hT.same s1).len, rfl, _, rfl, ?_⟩
    rw [show decide (V.int (S.n : Nat) = V.int 0) = false from decide_eq_false fun z => by have := V.int.inj z; omega]
    -- too many
    refine ⟨.ref a, rfl, .ref a, S.n, rfl, (hT.same s1).len, _, _, rfl, rfl, _, rfl, ?_⟩
    rw [show decide ((6 : Int) < (S.n : Nat)) = false from decide_eq_false fun z => by omega]
    -- each row
    refine ⟨.ref a, rfl, a, rfl, ⟨_, s1.seq hA⟩, for_list (xs := as.map V.ref) (fun i σ H2 => Same H H2 ∧ ∃ y, σ = [some (.ref a), y, none, none]) ⟨s1, _, rfl⟩ (fun i σ H2 _ z => z.1.seq hA) (fun i x σ H2 hx z => ?_) (fun σ H2 z => ?_)⟩
    · obtain ⟨s2, y, rfl⟩ := z
      obtain ⟨b, eb, rfl⟩ : ∃ b, as[i]? = some b ∧ x = .ref b := by
        rw [List.getElem?_map] at hx
        cases e : as[i]? with
        | none => rw [e] at hx; cases hx
        | some b => rw [e] at hx; exact ⟨b, rfl, (Option.some.inj hx).symm⟩
      refine ⟨.ref b, rfl, b, _, rfl, .inl (s2.seq (hB i b eb)), fun H3 s3 => ⟨true, rfl, ?_⟩⟩
      refine ⟨.ref b, rfl, .ref b, S.n, rfl, .inl ⟨_, (s2.trans s3).seq (hB i b eb), by rw [List.length_map, List.length_range]⟩, .ref a, rfl, .ref a, S.n, rfl, (hT.same (s2.trans s3)).len, rfl, _, rfl, ?_⟩
      rw [show (!decide (V.int (S.n : Nat) = V.int (S.n : Nat))) = false by rw [decide_eq_true rfl]; rfl]
      exact ⟨s2.trans s3, _, rfl⟩
    · obtain ⟨s2, y, rfl⟩ := z
      refine ⟨.ref a, rfl, .ref a, S.n, rfl, (hT.same s2).len, (S.n : Int), rfl, by omega, by omega, for_range (lo := 0) (n := S.n) (fun i σ H3 => Same H H3 ∧ ∃ y z u, σ = [some (.ref a), y, z, u]) ⟨s2, _, _, _, rfl⟩ (fun i σ H3 hi z => ?_) (fun σ H3 z => q H3 z.1)⟩
      obtain ⟨s3, y3, z3, u3, rfl⟩ := z
      refine ⟨.ref a, rfl, .ref a, S.n, rfl, (hT.same s3).len, (S.n : Int), rfl, by omega, by omega, for_range (lo := 0) (n := S.n) (fun j σ H3 => Same H H3 ∧ ∃ u, σ = [some (.ref a), y3, some (.int (i : Nat)), u]) ⟨s3, _, by rw [Int.zero_add]; rfl⟩ (fun j σ H4 hj z => ?_) (fun σ H4 z => ?_)⟩
      · obtain ⟨s4, u4, rfl⟩ := z
        rw [Int.zero_add]
        exact ⟨.ref a, rfl, .int (i : Nat), rfl, .int (j : Nat), rfl, a, S, i, j, rfl, (hT.same s4).any, hi, hj, true, rfl, s4, _, rfl⟩
      · obtain ⟨s4, u4, rfl⟩ := z
        exact ⟨s4, _, _, _, rfl⟩
end
end Bw
-- WkD
set_option autoImplicit true
set_option maxRecDepth 512
set_option Elab.async false
set_option linter.all false
set_option maxRecDepth 100000
set_option maxHeartbeats 1000000
/-! WkD: methods' bundles; Bonds: __init__, __len__, need_letter, weight. -/
namespace Bw
open PySem PySem.Spec PyProof.Rows L2 C8
/-- an __init__, under its class' name -/
structure ID (K : PySem.W.Frag) (mg : Str → Option Value) (x : Str) (C : Addr) (qual : Str) (st : Stmt) : Prop where
  ex : ∃ f fd, FunD K "__init__" qual (defArgs st) (defBody st) (defScope st) [] [] f fd ∧ Mk K C f ∧ mg x = some (.ref C)
/-- a method of a class with slots -/
structure MetS (P : Program) (w : World) (K : PySem.W.Frag) (mg : Str → Option Value) (base : Heap) (k : Nat) (C : Addr) (m : Str) (sp : Sp) : Prop where
  ex : ∃ f, SlX.SCls K C ∧ Meth K C m f ∧ FnR P w K mg base C8.CX0 k f sp
section
variable {P : Program} {w : World} {K : PySem.W.Frag} {mg : Str → Option Value} {base : Heap}
theorem fnr_nil {k : Nat} {f : Addr} {fd : FuncData} {ps : List Str} {sp : Sp} (F : FnOk P w K mg base C8.CX0 k f fd ps sp) (b : Binds K fd ps []) : FnR P w K mg base C8.CX0 k f sp := by
  have z := F.raw b .nil
  intro A outer s H us vs Q E hr e0 r hs
  refine z A outer s H us vs Q E hr e0 r ?_
  show sp (vs ++ []) H Q E
  rw [List.append_nil]
  exact hs
theorem mets_of {C : Addr} {m qual : Str} {st : Stmt} {N ps : List Str} {k : Nat} {sp : Sp} (c : SlX.SCls K C) (G : MD K C m qual st) (S : FnScope N ps (defScope st))
    (b : ∀ (kV doc pm : Value) (an : Option Addr) (cdv ct : Value) (us : List Value), us.length = ps.length → bindArgs (PySem.W.fnOf m qual (defArgs st) (defBody st) (defScope st) .none kV doc pm an cdv ct) ⟨us, []⟩ = pure (ps.zip us))
    (len : ∀ vs H Q E, sp vs H Q E → vs.length = ps.length)
    (hbody : ∀ (f : Addr) (cdv : Value) (A : Around) (outer : List Env) (s : Shared) (H : Hp) (vs : List V) (Q : VK) (E : XK), Room k (A.deeper (envOfC qual (defScope st) s.heap.objs.size f cdv)) → sp vs H Q E →
      ∃ t, PSs (cxOf C8.CX0 P w K mg base N qual (defScope st) f cdv A outer s H E).nox (defBody st) t ∧ t { nx := fun _ H' => Q .non H', rt := Q } (start N vs) H) : MetS P w K mg base (k + 1) C m sp := by
  obtain ⟨f, fd, F, hm⟩ := G.ex
  refine ⟨f, c, hm, fnr_nil (ps := ps) (F.ok S len (fun cdv A outer s H vs Q E hr hs => ?_)) (F.bindsN b)⟩
  obtain ⟨t, h, q⟩ := hbody f cdv A outer s H vs Q E hr hs
  exact ⟨t, h.nox, q⟩
theorem mak_of {C : Addr} {x qual : Str} {st : Stmt} {N ps : List Str} {k : Nat} {sp : Sp} (G : ID K mg x C qual st) (S : FnScope N ps (defScope st))
    (b : ∀ (kV doc pm : Value) (an : Option Addr) (cdv ct : Value) (us : List Value), us.length = ps.length → bindArgs (PySem.W.fnOf "__init__" qual (defArgs st) (defBody st) (defScope st) .none kV doc pm an cdv ct) ⟨us, []⟩ = pure (ps.zip us))
    (len : ∀ vs H Q E, sp vs H Q E → vs.length = ps.length)
    (hbody : ∀ (f : Addr) (cdv : Value) (A : Around) (outer : List Env) (s : Shared) (H : Hp) (vs : List V) (Q : VK) (E : XK), Room k (A.deeper (envOfC qual (defScope st) s.heap.objs.size f cdv)) → sp vs H Q E →
      ∃ t, PSs (cxOf C8.CX0 P w K mg base N qual (defScope st) f cdv A outer s H E).nox (defBody st) t ∧ t { nx := fun _ H' => Q .non H', rt := Q } (start N vs) H) : Mak P w K mg base (k + 1) x C sp [] := by
  obtain ⟨f, fd, F, hm, hx⟩ := G.ex
  refine ⟨f, fd, ps, [], hm, F.ok S len (fun cdv A outer s H vs Q E hr hs => ?_), hx, F.bindsN b, .nil⟩
  obtain ⟨t, h, q⟩ := hbody f cdv A outer s H vs Q E hr hs
  exact ⟨t, h.nox, q⟩
end
section
variable {X : Cx} {k j : Nat} {C : Addr} {x m : Str} {sp : Sp} {p pos apos : Pos} {e o : Expr} {es : List Expr} {ta : TE} {t : TA}
theorem pe_ms {pl : Sem Bool} (c : MetS X.prog X.w X.K X.mg X.base k C m sp) (hr : Room j X.A) (hk : k ≤ j) (he : PE X o ta) (ha : PA X (e :: es) t)
    (hst : starEach (e :: es) X.env = (false, eval e X.env) :: starEach es X.env := by rfl) (hpl : (backTo pos (starEach es X.env)).any (·.1) = false := by rfl)
    (ht : eval (.Call (.Attribute o m apos) (e :: es) [] pos) X.env = (do
      let ov ← eval o X.env
      standAt apos.atName
      let (f, first) ← holding [ov] (getMethod ov m pl)
      callWith pos f first (backTo pos (starEach (e :: es) X.env)) (backToKw pos (keywordEach [] X.env))) := by rfl) :
    PE X (.Call (.Attribute o m apos) (e :: es) [] pos) (SlX.tMethSl C sp C8.E0 ta t) := by
  obtain ⟨f, hc, hm, F⟩ := c.ex
  exact SlX.pe_methSl (pl := pl) he hc hm F (hr.mono hk) C8.pass0 ha hst hpl ht
end
/-- a Bonds object -/
def Bo (K : PySem.W.Frag) (C : Addr) (H : Hp) (b : Addr) (S : Sys) : Prop := ∃ (dx t : Addr) (as : List Addr), SlX.Slt H b C dx [some (.ref t)] ∧ as.length = S.n ∧ SqT K H t (as.map V.ref) ∧ ∀ i c, as[i]? = some c → SqT K H c ((List.range S.n).map fun j => V.int (tv S i j))
theorem slt_same {H H' : Hp} {b C dx : Addr} {vs : List (Option V)} (s : Same H H') (h : SlX.Slt H b C dx vs) : SlX.Slt H' b C dx vs := by
  rcases h with ⟨h1, h2⟩ | ⟨h1, h2⟩
  · exact .inl ⟨s _ _ h1, h2⟩
  · exact .inr ⟨s _ _ h1, s _ _ h2⟩
theorem Bo.same {K : PySem.W.Frag} {C : Addr} {H H' : Hp} {b : Addr} {S : Sys} (h : Bo K C H b S) (s : Same H H') : Bo K C H' b S := by
  obtain ⟨dx, t, as, h1, h2, h3, h4⟩ := h
  exact ⟨dx, t, as, slt_same s h1, h2, Same.tup s h3, fun i c q => Same.tup s (h4 i c q)⟩
section
variable {P : Program} {w : World} {K : PySem.W.Frag} {mg : Str → Option Value} {base : Heap} {C sp0 : Addr}
def spBLen (K : PySem.W.Frag) (C : Addr) : Sp := fun vs H Q _ => ∃ (b : Addr) (S : Sys), vs = [.ref b] ∧ Bo K C H b S ∧ Q (.int (S.n : Nat)) H
def spNeedL (K : PySem.W.Frag) (C : Addr) : Sp := fun vs H Q _ => ∃ (b : Addr) (S : Sys) (i : Nat), vs = [.ref b, .int ((i : Nat) + 1)] ∧ Bo K C H b S ∧ i < S.n ∧ Q .non H
theorem ok_Blen (c : SlX.SCls K C) (G : MD K C "__len__" "Bonds.__len__" s_Bonds_len) (t : SlX.Slot1 K C "table" sp0 0) (m1 : mg "len" = none) : MetS P w K mg base 1 C "__len__" (spBLen K C) := by
  refine mets_of (N := ["self"]) (ps := ["self"]) c G ⟨rfl, rfl, rfl, by decide +kernel, rfl, by decide +kernel, by decide +kernel⟩ (fun _ _ _ _ _ _ us hl => match us, hl with | [_], _ => rfl) (fun vs H Q E h => ?_) (fun f cdv A outer s H vs Q E hr h => ?_)
  · obtain ⟨a, _, rfl, _⟩ := h
    rfl
  · obtain ⟨b, S, rfl, ⟨dx, tb, as, h1, h2, h3, _⟩, q⟩ := h
    refine ⟨_, pss_one (ps_ret (pe_callB call_len (by rfl) m1 boot_len (pa_cons (SlX.pe_sl (pv 0)) pa_nil))), ?_⟩
    refine ⟨.ref b, rfl, b, C, dx, sp0, _, 0, .ref tb, rfl, h1, c, t, rfl, .ref tb, S.n, rfl, .inr ⟨_, h3, by rw [List.length_map, h2]⟩, q⟩
theorem ok_needL (c : SlX.SCls K C) (G : MD K C "need_letter" "Bonds.need_letter" s_Bonds_need_letter) (t : SlX.Slot1 K C "table" sp0 0) (m1 : mg "len" = none) (c1 : Cal P w K mg base 2 "is_among" spAmong []) : MetS P w K mg base 3 C "need_letter" (spNeedL K C) := by
  refine mets_of (N := ["self", "value"]) (ps := ["self", "value"]) c G ⟨rfl, rfl, rfl, by decide +kernel, rfl, by decide +kernel, by decide +kernel⟩ (fun _ _ _ _ _ _ us hl => match us, hl with | [_, _], _ => rfl) (fun vs H Q E h => ?_) (fun f cdv A outer s H vs Q E hr h => ?_)
  · obtain ⟨a, _, _, rfl, _⟩ := h
    rfl
  · obtain ⟨b, S, i, rfl, ⟨dx, tb, as, h1, h2, h3, _⟩, hi, q⟩ := h
    refine ⟨_, pss_one (ps_if (pt_not (pt_val (pe_c c1 hr (by decide) (by rfl) (pa_cons (pv 1) (pa_cons pe_int (pa_cons (pe_callB call_len (by rfl) m1 boot_len (pa_cons (SlX.pe_sl (pv 0)) pa_nil)) pa_nil)))))) (pss_one ps_never) pss_nil), ?_⟩
    refine ⟨.int ((i : Nat) + 1), rfl, .ref b, rfl, b, C, dx, sp0, _, 0, .ref tb, rfl, h1, c, t, rfl, .ref tb, S.n, rfl, .inr ⟨_, h3, by rw [List.length_map, h2]⟩, _, _, _, rfl, true, ?_, q⟩
    rw [decide_eq_true (by omega)]
end
end Bw
-- WkE
set_option autoImplicit true
set_option maxRecDepth 512
set_option Elab.async false
set_option linter.all false
set_option maxRecDepth 100000
set_option maxHeartbeats 1000000
/-! WkE: Bonds.weight, Bonds.__init__. -/
namespace Bw
open PySem PySem.Spec PyProof.Rows L2 C8
theorem atI_nat' {xs : List V} {k : Int} {j : Nat} {v : V} (e : k = (j : Int)) (h : xs[j]? = some v) : atI xs k = some v := by
  rw [e]
  exact atI_nat h
theorem wts_lt {S : Sys} (h : Wt S) {i j : Nat} (hij : i < j) (hj : j < S.n) : wts.lookup (tv S i j) = some [S.w i j, S.w j i] := by
  unfold tv
  rw [if_neg (Nat.ne_of_lt hij)]
  exact h i j hij hj
theorem wts_gt {S : Sys} (h : Wt S) {i j : Nat} (hij : j < i) (hi : i < S.n) : wts.lookup (tv S i j) = some [S.w j i, S.w i j] := by
  rw [tv_sym hi (Nat.lt_trans hij hi)]
  exact wts_lt h hij hi
def rTupOf (K : PySem.W.Frag) : List V → Hp → VK → Prop := fun xs H Q => ∃ p ys, xs = [V.ref p] ∧ ((SqL K H p ys ∧ ∀ l, H l = none → Q (.ref l) (upd H l (.tup ys))) ∨ (SqT K H p ys ∧ Q (.ref p) H))
theorem call_tupOf {X : Cx} : CallR X (.type "tuple") (rTupOf X.K) := call_tuple_of
section
variable {P : Program} {w : World} {K : PySem.W.Frag} {mg : Str → Option Value} {base : Heap} {C sp0 : Addr}
def spWeight (K : PySem.W.Frag) (C : Addr) : Sp := fun vs H Q _ => ∃ (b : Addr) (S : Sys) (i j : Nat), vs = [.ref b, .int ((i : Nat) + 1), .int ((j : Nat) + 1)] ∧ Bo K C H b S ∧ Wt S ∧ i < S.n ∧ j < S.n ∧ Q (.int (S.w i j)) H
theorem ok_weight {aW : Addr} (c : SlX.SCls K C) (G : MD K C "weight" "Bonds.weight" s_Bonds_weight) (t : SlX.Slot1 K C "table" sp0 0) (mw : mg "WEIGHTS" = some (.ref aW)) (hw : WD K aW wts) (c1 : MetS P w K mg base 3 C "need_letter" (spNeedL K C)) : MetS P w K mg base 4 C "weight" (spWeight K C) := by
  refine mets_of (N := ["self", "one", "other", "pair"]) (ps := ["self", "one", "other"]) c G ⟨rfl, rfl, rfl, by decide +kernel, rfl, by decide +kernel, by decide +kernel⟩ (fun _ _ _ _ _ _ us hl => match us, hl with | [_, _, _], _ => rfl) (fun vs H Q E h => ?_) (fun f cdv A outer s H vs Q E hr h => ?_)
  · obtain ⟨a, _, _, _, rfl, _⟩ := h
    rfl
  · obtain ⟨b, S, i, j, rfl, hB, hW, hi, hj, q⟩ := h
    have nd : (["self", "one", "other", "pair"] : List Str).Nodup := by decide +kernel
    refine ⟨_, pss_cons (ps_expr (pe_ms c1 hr (by decide) (pv 0) (pa_cons (pv 1) pa_nil))) (pss_cons (ps_expr (pe_ms c1 hr (by decide) (pv 0) (pa_cons (pv 2) pa_nil)))
      (pss_cons (ps_if (pt_cmpR op_eq (pv 1) (pv 2) (nomark _)) (pss_one (ps_ret (pe_un un_neg pe_int))) pss_nil)
      (pss_cons (ps_set (i := 3) nd rfl (.inl rfl) (pe_wd hw (pe_glob (v := .ref aW) (by rfl) mw rfl) (pe_ix ix_tup (pe_ix ix_tup (SlX.pe_sl (pv 0)) (pe_op op_sub (pv 1) pe_int) (fun _ _ => rfl)) (pe_op op_sub (pv 2) pe_int) (fun _ _ => rfl)) (fun _ _ => rfl)))
      (pss_one (ps_ret (pe_ifExp (pt_cmpR op_lt (pv 1) (pv 2) (nomark _)) (pe_ix ix_tup (pv 3) pe_int (fun _ _ => rfl)) (pe_ix ix_tup (pv 3) pe_int (fun _ _ => rfl)))))))), ?_⟩
    obtain ⟨dx, tb, as, h1, h2, h3, h4⟩ := id hB
    refine ⟨.ref b, rfl, b, dx, _, rfl, h1, .int ((i : Nat) + 1), rfl, b, S, i, rfl, hB, hi, ?_⟩
    refine ⟨.ref b, rfl, b, dx, _, rfl, h1, .int ((j : Nat) + 1), rfl, b, S, j, rfl, hB, hj, ?_⟩
    refine ⟨.int ((i : Nat) + 1), rfl, .int ((j : Nat) + 1), rfl, rfl, _, rfl, ite2 (fun e => ?_) (fun e => ?_)⟩
    · have e1 : i = j := by
        have := V.int.inj (of_decide_eq_true e)
        omega
      subst e1
      refine ⟨2, rfl, ?_⟩
      rw [S.diag i hi] at q
      exact q
    · have e1 : i ≠ j := fun z => e (decide_eq_true (by rw [z]))
      have qa : as[i]? = some (as[i]'(by omega)) := List.getElem?_eq_getElem (by omega)
      have qv : (as.map V.ref)[i]? = some (.ref (as[i]'(by omega))) := by
        rw [List.getElem?_map, qa]
        rfl
      refine ⟨.ref b, rfl, b, C, dx, sp0, _, 0, .ref tb, rfl, h1, c, t, rfl, .int ((i : Nat) + 1), rfl, _, 1, rfl, rfl, tb, _, _, _, rfl, rfl, h3, atI_nat' (by omega) qv, .int ((j : Nat) + 1), rfl, _, 1, rfl, rfl, _, _, _, _, rfl, rfl, h4 i _ qa, atI_nat' (by omega) (range_at hj), rfl, tv S i j, ?_⟩
      rcases Nat.lt_or_gt_of_ne e1 with hlt | hgt
      · refine ⟨_, rfl, wts_lt hW hlt hj, fun pt hpt => ?_⟩
        refine ⟨.int ((i : Nat) + 1), rfl, .int ((j : Nat) + 1), rfl, _, _, rfl, rfl, _, rfl, ?_⟩
        rw [decide_eq_true (show (((i : Nat) : Int) + 1) < (((j : Nat) : Int) + 1) by omega)]
        exact ⟨.ref pt, rfl, pt, _, 0, _, rfl, rfl, hpt, atI_nat (j := 0) rfl, q⟩
      · refine ⟨_, rfl, wts_gt hW hgt hi, fun pt hpt => ?_⟩
        refine ⟨.int ((i : Nat) + 1), rfl, .int ((j : Nat) + 1), rfl, _, _, rfl, rfl, _, rfl, ?_⟩
        rw [decide_eq_false (show ¬ (((i : Nat) : Int) + 1) < (((j : Nat) : Int) + 1) by omega)]
        exact ⟨.ref pt, rfl, pt, _, 1, _, rfl, rfl, hpt, atI_nat (j := 1) rfl, q⟩
/-- a new Bonds stands -/
def spBinit (K : PySem.W.Frag) (C : Addr) : Sp := fun vs H Q _ => ∃ (x dx a : Addr) (S : Sys), vs = [.ref x, .ref a] ∧ dx ≠ x ∧ H x = some (.ins C dx []) ∧ H dx = some (.own x) ∧ TbL K H a S ∧ 1 ≤ S.n ∧ S.n ≤ 6 ∧
  ∀ H', (∀ b o, H b = some o → b ≠ x → b ≠ dx → H' b = some o) → Bo K C H' x S → Q .non H'
theorem ok_Binit (c : SlX.SCls K C) (G : ID K mg "Bonds" C "Bonds.__init__" s_Bonds_init) (t : SlX.Slot1 K C "table" sp0 0) (m1 : mg "tuple" = none) (c1 : Cal P w K mg base 4 "need_rows" (spNeedRows K) []) : Mak P w K mg base 5 "Bonds" C (spBinit K C) [] := by
  refine mak_of (N := ["self", "rows", "row"]) (ps := ["self", "rows"]) G ⟨rfl, rfl, rfl, by decide +kernel, rfl, by decide +kernel, by decide +kernel⟩ (fun _ _ _ _ _ _ us hl => match us, hl with | [_, _], _ => rfl) (fun vs H Q E h => ?_) (fun f cdv A outer s H vs Q E hr h => ?_)
  · obtain ⟨a, _, _, _, rfl, _⟩ := h
    rfl
  · obtain ⟨x, dx, a, S, rfl, ndx, hx, hdx, hT, h1, h6, q⟩ := h
    have nd : (["self", "rows", "row"] : List Str).Nodup := by decide +kernel
    refine ⟨_, pss_cons (ps_expr (pe_c c1 hr (by decide) (by rfl) (pa_cons (pv 1) pa_nil)))
      (pss_one (SlX.ps_sl (pv 0) (pe_callTy call_tuple_of (by rfl) m1 boot_tuple (pa_cons (pe_lc (own := [("row", 2)]) (g := gName 2) (tt := tYes) (by rfl) nd (pi_list (pv 1)) (blkOk_by (own := [("row", 2)]) (N := ["self", "rows", "row"]) (sc := defScope s_Bonds_init) (by decide +kernel))
        (fun _ _ _ _ _ => pg_name (i := 2) nd rfl (.inl rfl)) (fun _ _ _ _ _ => pts_nil) (fun _ _ _ _ _ => pe_callTy (show CallR _ _ (rTupOf K) from call_tupOf) (by rfl) m1 boot_tuple (pa_cons (pv 2) pa_nil))) pa_nil)))), ?_⟩
    refine ⟨.ref a, rfl, a, S, rfl, hT, h1, h6, fun H1 s1 => ?_⟩
    obtain ⟨as, el, hA, hB⟩ := hT.same s1
    refine ⟨.ref a, rfl, a, rfl, ⟨_, hA⟩, fun D nD => ?_⟩
    refine lc_list (xs := as.map V.ref) (fun i H2 => ∃ ts : List Addr, ts.length = i ∧ H2 D = some (.lst (ts.map V.ref)) ∧ (∀ b o, H1 b = some o → H2 b = some o) ∧ ∀ j c, ts[j]? = some c → H2 c = some (.tup ((List.range S.n).map fun k => V.int (tv S j k)))) ⟨[], rfl, upd_same, fun b o e => same_upd nD b o e, fun j c z => by cases j <;> cases z⟩ (fun i H2 _ z => ?_) (fun i v H2 hv z => ?_) (fun H2 z => ?_)
    · obtain ⟨ts, _, _, s2, _⟩ := z
      exact Same.seq s2 hA
    · obtain ⟨ts, e1, e2, s2, e3⟩ := z
      obtain ⟨b, eb, rfl⟩ : ∃ b, as[i]? = some b ∧ v = .ref b := by
        rw [List.getElem?_map] at hv
        cases e : as[i]? with
        | none => rw [e] at hv; cases hv
        | some b => rw [e] at hv; exact ⟨b, rfl, (Option.some.inj hv).symm⟩
      have hi : i < S.n := by rw [← el]; exact (List.getElem?_eq_some_iff.mp eb).1
      refine ⟨rfl, .ref b, rfl, b, _, rfl, .inl ⟨Same.seq s2 (hB i b eb), fun l nl => ⟨ts.map V.ref, ?_, ?_, ts ++ [l], ?_, ?_, ?_, ?_⟩⟩⟩
      · rw [upd_ne (ne_of_none e2 nl)]
        exact e2
      · rw [List.length_map]
        exact small1000 (by omega)
      · rw [List.length_append, e1]; rfl
      · rw [upd_same, List.map_append]; rfl
      · intro b' o e
        have e' := s2 b' o e
        rw [upd_ne (ne_of_none e nD), upd_ne (ne_of_none e' nl)]
        exact e'
      · intro j c hc
        by_cases hj : j < ts.length
        · rw [List.getElem?_append_left hj] at hc
          have e' := e3 j c hc
          have nc : c ≠ D := fun z => by rw [z, e2] at e'; cases e'
          rw [upd_ne nc, upd_ne (ne_of_none e' nl)]
          exact e'
        · rw [List.getElem?_append_right (by omega)] at hc
          have : j - ts.length = 0 := by
            cases h0 : j - ts.length with
            | zero => rfl
            | succ k => rw [h0] at hc; cases hc
          have ej : j = i := by omega
          rw [this] at hc
          obtain rfl : l = c := Option.some.inj hc
          subst ej
          rw [upd_ne (fun z => by rw [z, e2] at nl; cases nl), upd_same]
    · obtain ⟨ts, e1, e2, s2, e3⟩ := z
      rw [List.length_map, el] at e1
      refine ⟨D, ts.map V.ref, rfl, .inl ⟨.inl (.inl e2), fun T nT => ⟨.ref x, rfl, x, C, dx, sp0, [], 0, rfl, .inl ⟨?_, rfl⟩, c, t, ?_⟩⟩⟩
      · rw [upd_ne (ne_of_none (s2 _ _ (s1 _ _ hx)) nT)]
        exact s2 _ _ (s1 _ _ hx)
      · have keep : ∀ b o, H2 b = some o → b ≠ x → b ≠ dx → SlX.slH (upd H2 T (.tup (ts.map V.ref))) x C dx (SlX.putS 0 (.ref T) []) b = some o := fun b o e n1 n2 => by
          rw [SlX.slH_ne n1 n2, upd_ne (ne_of_none e nT)]
          exact e
        have xx := s2 _ _ (s1 _ _ hx)
        have xd := s2 _ _ (s1 _ _ hdx)
        refine q _ (fun b o e n1 n2 => keep b o (s2 _ _ (s1 _ _ e)) n1 n2) ⟨dx, T, ts, SlX.slH_slt ndx, e1, .inl (.inl ?_), fun j c' hc => .inl (.inl ?_)⟩
        · rw [SlX.slH_ne (fun z => by rw [z, xx] at nT; cases nT) (fun z => by rw [z, xd] at nT; cases nT), upd_same]
        · have e' := e3 j c' hc
          exact keep c' _ e' (fun z => by rw [z, xx] at e'; cases e') (fun z => by rw [z, xd] at e'; cases e')
end
end Bw
-- WkF
set_option autoImplicit true
set_option maxRecDepth 512
set_option Elab.async false
set_option linter.all false
set_option maxRecDepth 100000
set_option maxHeartbeats 1000000
/-! WkF: need_word, start. -/
namespace Bw
open PySem PySem.Spec PyProof.Rows L2 C8
/-- a word's letters as Python counts them -/
def wv (u : List Nat) : List V := u.map fun (l : Nat) => V.int ((l : Nat) + 1)
theorem wv_len (u : List Nat) : (wv u).length = u.length := List.length_map ..
theorem wv_at {u : List Nat} {i : Nat} {v : V} (h : (wv u)[i]? = some v) : ∃ l, u[i]? = some l ∧ v = .int ((l : Nat) + 1) := by
  unfold wv at h
  rw [List.getElem?_map] at h
  cases e : u[i]? with
  | none => rw [e] at h; cases h
  | some l => rw [e] at h; exact ⟨l, rfl, (Option.some.inj h).symm⟩
/-- a row as a tuple -/
def rv (n : Nat) (r : Row) : List V := (List.range n).map fun j => V.int (r j)
theorem rv_len (n : Nat) (r : Row) : (rv n r).length = n := by unfold rv; rw [List.length_map, List.length_range]
theorem rv_at {n : Nat} {r : Row} {i : Nat} (h : i < n) : (rv n r)[i]? = some (.int (r i)) := range_at h
section
variable {X : Cx} {k j : Nat} {C : Addr} {sp : Sp}
theorem cr_lenB (c : MetS X.prog X.w X.K X.mg X.base k C "__len__" sp) (hr : Room j X.A) (hk : k + 1 ≤ j) : CallR X (.builtin "len") (rLenSl C sp C8.E0) := by
  obtain ⟨f, hc, hm, F⟩ := c.ex
  exact call_lenSl hm.at_ hm.fn F (hr.mono hk) C8.pass0
end
theorem blen_q {K : PySem.W.Frag} {C b : Addr} {S : Sys} {H : Hp} {Q : VK} (h : Bo K C H b S) (hn : S.n ≤ 6) (q : Q (.int (S.n : Nat)) H) : rLenSl C (spBLen K C) C8.E0 [.ref b] H Q := by
  obtain ⟨dx, t, as, h1, h2, h3, h4⟩ := id h
  exact ⟨b, dx, _, rfl, h1, b, S, rfl, h, _, rfl, by omega, by omega, q⟩
section
variable {P : Program} {w : World} {K : PySem.W.Frag} {mg : Str → Option Value} {base : Heap} {C : Addr}
def spNeedW (K : PySem.W.Frag) (C : Addr) : Sp := fun vs H Q _ => ∃ (b a : Addr) (S : Sys) (u : List Nat), vs = [.ref b, .ref a] ∧ Bo K C H b S ∧ S.n ≤ 6 ∧ SqA K H a (wv u) ∧ u.length ≤ 60 ∧ (∀ l ∈ u, l < S.n) ∧ ∀ H', Same H H' → Q .non H'
theorem ok_need_word (G : GD K mg "need_word" s_need_word) (c1 : Cal P w K mg base 1 "is_list" (spIsList K) []) (c2 : Cal P w K mg base 2 "is_among" spAmong []) (c3 : MetS P w K mg base 1 C "__len__" (spBLen K C)) (m1 : mg "len" = none) (m2 : mg "enumerate" = none) {v60 : Value} (m3 : mg "MOST_WORD" = some v60) (h60 : RelV (.int 60) v60) :
    Cal P w K mg base 3 "need_word" (spNeedW K C) [] := by
  refine cal_of (N := ["bonds", "word", "place", "letter"]) (ps := ["bonds", "word"]) G ⟨rfl, rfl, rfl, by decide +kernel, rfl, by decide +kernel, by decide +kernel⟩ (fun _ _ _ _ _ _ us hl => match us, hl with | [_, _], _ => rfl) (fun vs H Q E h => ?_) (fun f cdv A outer s H vs Q E hr h => ?_)
  · obtain ⟨a, _, _, _, rfl, _⟩ := h
    rfl
  · obtain ⟨b, a, S, u, rfl, hB, hn, hA, h60', hlt, q⟩ := h
    have nd : (["bonds", "word", "place", "letter"] : List Str).Nodup := by decide +kernel
    have turn : ∀ (i : Nat) (v : V) (σ : L2.St) (H1 H2 : Hp) (Nx : L2.St → Hp → Prop) (Q' : V → Hp → Prop), True := fun _ _ _ _ _ _ _ => trivial
    have lenA : ∀ {H1 : Hp}, Same H H1 → LenV K (.ref a) H1 u.length := fun s1 => by
      rcases hA.same s1 with z | z
      · exact .inl ⟨_, z, by rw [wv_len]⟩
      · exact .inr ⟨_, z, by rw [wv_len]⟩
    have among : ∀ {i : Nat} {v : V} {H2 : Hp} {T : Addr}, (wv u)[i]? = some v → Same H H2 → H2 T = none → ∃ l : Nat, v = .int ((l : Nat) + 1) ∧ l < S.n ∧ Same H (upd H2 T (.tup [.int (i : Nat), v])) := fun {i v H2 T} hv s2 nT => by
      obtain ⟨l, hl, rfl⟩ := wv_at hv
      exact ⟨l, rfl, hlt l (List.mem_of_getElem? hl), s2.trans (same_upd nT)⟩
    rcases id hA with hL | hT
    · refine ⟨_, pss_cons (ps_if (pt_not (pt_val (pe_c c1 hr (by decide) (by rfl) (pa_cons (pv 1) pa_nil)))) (pss_one ps_never) pss_nil)
        (pss_cons (ps_if (pt_cmpR op_gt (pe_callB call_len (by rfl) m1 boot_len (pa_cons (pv 1) pa_nil)) (pe_glob (v := .int 60) (by rfl) m3 h60) (nomark _)) (pss_one ps_never) pss_nil)
        (pss_one (ps_for PassesOwn.never rfl (pi_enum (by rfl) m2 (pa_cons (pv 1) pa_nil)) (pg_tup rfl (pgs_cons (pg_name (i := 2) nd rfl (.inl rfl)) (pgs_cons (pg_name (i := 3) nd rfl (.inl rfl)) pgs_nil)))
          (pss_one (ps_if (pt_not (pt_val (pe_c c2 hr (by decide) (by rfl) (pa_cons (pv 3) (pa_cons pe_int (pa_cons (pe_callB (cr_lenB c3 hr (by decide)) (by rfl) m1 boot_len (pa_cons (pv 0) pa_nil)) pa_nil)))))) (pss_one ps_never) pss_nil))))), ?_⟩
      refine ⟨.ref a, rfl, a, _, rfl, hA, fun H1 s1 => ⟨true, rfl, ?_⟩⟩
      refine ⟨.ref a, rfl, .ref a, u.length, rfl, lenA s1, _, _, rfl, rfl, _, rfl, ?_⟩
      rw [show decide ((60 : Int) < (u.length : Nat)) = false from decide_eq_false fun z => by omega]
      refine ⟨.ref a, rfl, a, wv u, rfl, s1.seq hL, for_it walk_enum (fun i σ H2 => Same H H2 ∧ ∃ y z, σ = [some (.ref b), some (.ref a), y, z]) ⟨s1, _, _, rfl⟩ (fun i σ H2 _ z => z.1.seq hL) (fun i x σ H2 H3 hi z hy => ?_) (fun σ H2 z => q H2 z.1)⟩
      obtain ⟨s2, y, z, rfl⟩ := z
      obtain ⟨T, x1, x2, rfl, nT, rfl, e1, e2⟩ := hy
      cases Option.some.inj e1
      obtain ⟨l, rfl, hl, s3⟩ := among e2 s2 nT
      refine ⟨T, _, rfl, .inl (.inl upd_same), rfl, _, _, rfl, _, _, rfl, rfl, .int ((l : Nat) + 1), rfl, .ref b, rfl, blen_q (hB.same s3) hn ⟨_, _, _, rfl, true, ?_, s3, _, _, rfl⟩⟩
      rw [decide_eq_true (by omega)]
    · refine ⟨_, pss_cons (ps_if (pt_not (pt_val (pe_c c1 hr (by decide) (by rfl) (pa_cons (pv 1) pa_nil)))) (pss_one ps_never) pss_nil)
        (pss_cons (ps_if (pt_cmpR op_gt (pe_callB call_len (by rfl) m1 boot_len (pa_cons (pv 1) pa_nil)) (pe_glob (v := .int 60) (by rfl) m3 h60) (nomark _)) (pss_one ps_never) pss_nil)
        (pss_one (ps_for PassesOwn.never rfl (pi_enumT (by rfl) m2 (pa_cons (pv 1) pa_nil)) (pg_tup rfl (pgs_cons (pg_name (i := 2) nd rfl (.inl rfl)) (pgs_cons (pg_name (i := 3) nd rfl (.inl rfl)) pgs_nil)))
          (pss_one (ps_if (pt_not (pt_val (pe_c c2 hr (by decide) (by rfl) (pa_cons (pv 3) (pa_cons pe_int (pa_cons (pe_callB (cr_lenB c3 hr (by decide)) (by rfl) m1 boot_len (pa_cons (pv 0) pa_nil)) pa_nil)))))) (pss_one ps_never) pss_nil))))), ?_⟩
      refine ⟨.ref a, rfl, a, _, rfl, hA, fun H1 s1 => ⟨true, rfl, ?_⟩⟩
      refine ⟨.ref a, rfl, .ref a, u.length, rfl, lenA s1, _, _, rfl, rfl, _, rfl, ?_⟩
      rw [show decide ((60 : Int) < (u.length : Nat)) = false from decide_eq_false fun z => by omega]
      refine ⟨.ref a, rfl, a, wv u, rfl, Same.tup s1 hT, for_it walk_enumT (fun i σ H2 => Same H H2 ∧ ∃ y z, σ = [some (.ref b), some (.ref a), y, z]) ⟨s1, _, _, rfl⟩ (fun i σ H2 _ z => Same.tup z.1 hT) (fun i x σ H2 H3 hi z hy => ?_) (fun σ H2 z => q H2 z.1)⟩
      obtain ⟨s2, y, z, rfl⟩ := z
      obtain ⟨T, x1, x2, rfl, nT, rfl, e1, e2⟩ := hy
      cases Option.some.inj e1
      obtain ⟨l, rfl, hl, s3⟩ := among e2 s2 nT
      refine ⟨T, _, rfl, .inl (.inl upd_same), rfl, _, _, rfl, _, _, rfl, rfl, .int ((l : Nat) + 1), rfl, .ref b, rfl, blen_q (hB.same s3) hn ⟨_, _, _, rfl, true, ?_, s3, _, _, rfl⟩⟩
      rw [decide_eq_true (by omega)]
/-- start: the row of ones -/
def spStart (K : PySem.W.Frag) (C : Addr) : Sp := fun vs H Q _ => ∃ (b : Addr) (S : Sys), vs = [.ref b] ∧ Bo K C H b S ∧ 1 ≤ S.n ∧ S.n ≤ 6 ∧ ∀ p H', Same H H' → H' p = some (.tup (rv S.n rho)) → Q (.ref p) H'
theorem ok_start (G : GD K mg "start" s_start) (c3 : MetS P w K mg base 1 C "__len__" (spBLen K C)) (m1 : mg "len" = none) : Cal P w K mg base 3 "start" (spStart K C) [] := by
  refine cal_of (N := ["bonds"]) (ps := ["bonds"]) G ⟨rfl, rfl, rfl, by decide +kernel, rfl, by decide +kernel, by decide +kernel⟩ (fun _ _ _ _ _ _ us hl => match us, hl with | [_], _ => rfl) (fun vs H Q E h => ?_) (fun f cdv A outer s H vs Q E hr h => ?_)
  · obtain ⟨a, _, rfl, _⟩ := h
    rfl
  · obtain ⟨b, S, rfl, hB, h1, h6, q⟩ := h
    refine ⟨_, pss_one (ps_ret (pe_op op_repN (pe_tup (pa_cons pe_int pa_nil)) (pe_callB (cr_lenB c3 hr (by decide)) (by rfl) m1 boot_len (pa_cons (pv 0) pa_nil)))), ?_⟩
    refine ⟨(by show 1 ≤ sizeLine; decide), fun t nt => ⟨.ref b, rfl, blen_q (hB.same (same_upd nt)) h6 ⟨t, S.n, .int 1, rfl, rfl, upd_same, h1, by omega, fun p H' s1 e => ?_⟩⟩⟩
    refine q p H' ((same_upd nt).trans s1) ?_
    rw [e]
    unfold rv rho
    rw [List.map_const', List.length_range]
end
end Bw
-- WkG
set_option autoImplicit true
set_option maxRecDepth 512
set_option Elab.async false
set_option linter.all false
set_option maxRecDepth 100000
set_option maxHeartbeats 1000000
/-! WkG: pressed. -/
namespace Bw
open PySem PySem.Spec PyProof.Rows L2 C8
theorem w_small {S : Sys} {i j : Nat} (hi : i < S.n) (hj : j < S.n) : -(2 : Int) ^ 64 < S.w i j ∧ S.w i j < (2 : Int) ^ 64 := by
  have : -2 ≤ S.w i j ∧ S.w i j ≤ 3 := by
    by_cases h : i = j
    · subst h
      rw [S.diag i hi]
      decide
    · rcases S.kind i j hi hj h with ⟨_, e, _⟩ | ⟨_, e, _⟩ | ⟨_, e, _⟩ | ⟨_, e, _⟩ | ⟨_, e, _⟩ | ⟨_, e, _⟩ | ⟨_, e, _⟩ <;> rw [e] <;> decide
  constructor <;> omega
section
variable {P : Program} {w : World} {K : PySem.W.Frag} {mg : Str → Option Value} {base : Heap} {C : Addr}
def spPressed (K : PySem.W.Frag) (C : Addr) : Sp := fun vs H Q _ => ∃ (b p : Addr) (S : Sys) (r : Row) (i : Nat), vs = [.ref b, .ref p, .int ((i : Nat) + 1)] ∧ Bo K C H b S ∧ Wt S ∧ S.n ≤ 6 ∧ SqT K H p (rv S.n r) ∧ i < S.n ∧ ∀ p' H', Same H H' → H' p' = some (.tup (rv S.n (press S.w i r))) → Q (.ref p') H'
theorem take_snoc {xs : List V} {i : Nat} {v : V} (h : xs[i]? = some v) : xs.take (i + 1) = xs.take i ++ [v] := by
  rw [List.take_add_one, h]
  rfl
theorem ok_pressed (G : GD K mg "pressed" s_pressed) (c1 : MetS P w K mg base 4 C "weight" (spWeight K C)) (m1 : mg "tuple" = none) (m2 : mg "enumerate" = none) : Cal P w K mg base 5 "pressed" (spPressed K C) [] := by
  refine cal_of (N := ["bonds", "row", "letter", "number", "place", "one"]) (ps := ["bonds", "row", "letter"]) G ⟨rfl, rfl, rfl, by decide +kernel, rfl, by decide +kernel, by decide +kernel⟩ (fun _ _ _ _ _ _ us hl => match us, hl with | [_, _, _], _ => rfl) (fun vs H Q E h => ?_) (fun f cdv A outer s H vs Q E hr h => ?_)
  · obtain ⟨a, _, _, _, _, rfl, _⟩ := h
    rfl
  · obtain ⟨b, p, S, r, i, rfl, hB, hW, h6, hp, hi, q⟩ := h
    have nd : (["bonds", "row", "letter", "number", "place", "one"] : List Str).Nodup := by decide +kernel
    refine ⟨_, pss_cons (ps_set (i := 3) nd rfl (.inr rfl) (pe_ix ix_tup (pv 1) (pe_op op_sub (pv 2) pe_int) (fun _ _ => rfl)))
      (pss_one (ps_ret (pe_callTy call_tupOf (by rfl) m1 boot_tuple (pa_cons (pe_lc (own := [("place", 4), ("one", 5)]) (g := gTup K 2 (gCons (gName 4) (gCons (gName 5) gNil))) (tt := tYes) (by rfl) nd (pi_enumT (by rfl) m2 (pa_cons (pv 1) pa_nil)) (blkOk_by (own := [("place", 4), ("one", 5)]) (N := ["bonds", "row", "letter", "number", "place", "one"]) (sc := defScope s_pressed) (by decide +kernel))
        (fun _ _ _ _ _ => pg_tup rfl (pgs_cons (pg_name (i := 4) nd rfl (.inl rfl)) (pgs_cons (pg_name (i := 5) nd rfl (.inl rfl)) pgs_nil))) (fun _ _ _ _ _ => pts_nil)
        (fun _ _ _ _ _ => pe_op op_add (pv 5) (pe_op op_mul (pe_ms c1 hr (by decide) (pv 0) (pa_cons (pv 2) (pa_cons (pe_op op_add (pv 4) pe_int) pa_nil))) (pv 3)))) pa_nil)))), ?_⟩
    refine ⟨.ref p, rfl, .int ((i : Nat) + 1), rfl, _, 1, rfl, rfl, p, _, _, _, rfl, rfl, hp, atI_nat' (by omega) (rv_at hi), ?_⟩
    refine ⟨.ref p, rfl, p, _, rfl, hp, fun D nD => ?_⟩
    refine lc_it walk_enumT (fun j H2 => H2 D = some (.lst ((rv S.n (press S.w i r)).take j)) ∧ ∀ b o, H b = some o → H2 b = some o) ⟨upd_same, fun b o e => same_upd nD b o e⟩ (fun j H2 _ z => Same.tup z.2 hp) (fun j x H2 H3 hj z hy => ?_) (fun H2 z => ?_)
    · obtain ⟨eD, s2⟩ := z
      obtain ⟨T, x1, x2, rfl, nT, rfl, e1, e2⟩ := hy
      cases Option.some.inj e1
      rw [rv_len] at hj
      cases Option.some.inj (e2.symm.trans (rv_at hj))
      obtain ⟨dx, t, as, h1, h2, h3, h4⟩ := id hB
      have s3 : Same H (upd H2 T (.tup [.int (j : Nat), .int (r j)])) := fun b o e => same_upd nT b o (s2 b o e)
      refine ⟨T, _, rfl, .inl (.inl upd_same), rfl, _, _, rfl, _, _, rfl, rfl, rfl, .int (r j), rfl, .ref b, rfl, b, dx, _, rfl, slt_same s3 h1, .int ((i : Nat) + 1), rfl, .int (j : Nat), rfl, _, 1, rfl, rfl, b, S, i, j, rfl, hB.same s3, hW, hi, hj, ?_⟩
      refine ⟨.int (r i), rfl, _, _, rfl, rfl, .inl (w_small hi hj), _, _, rfl, rfl, (rv S.n (press S.w i r)).take j, ?_, ?_, ?_, ?_⟩
      · rw [upd_ne (fun z => by rw [z, nT] at eD; cases eD)]
        exact eD
      · rw [List.length_take, rv_len]
        exact small1000 (by omega)
      · rw [upd_same, take_snoc (rv_at hj)]
        rfl
      · intro b' o e
        rw [upd_ne (ne_of_none e nD)]
        exact s3 b' o e
    · obtain ⟨eD, s2⟩ := z
      rw [rv_len, List.take_of_length_le (by rw [rv_len]; exact Nat.le_refl _)] at eD
      exact ⟨D, _, rfl, .inl ⟨.inl (.inl eD), fun l nl => q l _ (fun b o e => same_upd nl b o (s2 b o e)) upd_same⟩⟩
end
end Bw
-- WkH
set_option autoImplicit true
set_option maxRecDepth 512
set_option Elab.async false
set_option linter.all false
set_option maxRecDepth 100000
set_option maxHeartbeats 1000000
/-! WkH: row_by, below, other_row. -/
namespace Bw
open PySem PySem.Spec PyProof.Rows L2 C8
section
variable {P : Program} {w : World} {K : PySem.W.Frag} {mg : Str → Option Value} {base : Heap} {C : Addr}
def spRowBy (K : PySem.W.Frag) (C : Addr) : Sp := fun vs H Q _ => ∃ (b a : Addr) (S : Sys) (u : List Nat), vs = [.ref b, .ref a] ∧ Bo K C H b S ∧ Wt S ∧ 1 ≤ S.n ∧ S.n ≤ 6 ∧ SqA K H a (wv u) ∧ (∀ l ∈ u, l < S.n) ∧ ∀ p' H', Same H H' → H' p' = some (.tup (rv S.n (pr S.w u rho))) → Q (.ref p') H'
theorem pr_take {ww : Nat → Nat → Int} {u : List Nat} {i l : Nat} (h : u[i]? = some l) (r : Row) : pr ww (u.take (i + 1)) r = press ww l (pr ww (u.take i) r) := by
  rw [List.take_add_one, h, pr_append]
  rfl
theorem ok_row_by (G : GD K mg "row_by" s_row_by) (c1 : Cal P w K mg base 3 "start" (spStart K C) []) (c2 : Cal P w K mg base 5 "pressed" (spPressed K C) []) : Cal P w K mg base 6 "row_by" (spRowBy K C) [] := by
  refine cal_of (N := ["bonds", "word", "row", "letter"]) (ps := ["bonds", "word"]) G ⟨rfl, rfl, rfl, by decide +kernel, rfl, by decide +kernel, by decide +kernel⟩ (fun _ _ _ _ _ _ us hl => match us, hl with | [_, _], _ => rfl) (fun vs H Q E h => ?_) (fun f cdv A outer s H vs Q E hr h => ?_)
  · obtain ⟨a, _, _, _, rfl, _⟩ := h
    rfl
  · obtain ⟨b, a, S, u, rfl, hB, hW, h1, h6, hA, hlt, q⟩ := h
    have nd : (["bonds", "word", "row", "letter"] : List Str).Nodup := by decide +kernel
    have turn : ∀ {i : Nat} {v : V}, (wv u)[i]? = some v → ∃ l, u[i]? = some l ∧ v = .int ((l : Nat) + 1) ∧ l < S.n := fun hv => by
      obtain ⟨l, hl, rfl⟩ := wv_at hv
      exact ⟨l, hl, rfl, hlt l (List.mem_of_getElem? hl)⟩
    rcases id hA with hL | hT
    · refine ⟨_, pss_cons (ps_set (i := 2) nd rfl (.inl rfl) (pe_c c1 hr (by decide) (by rfl) (pa_cons (pv 0) pa_nil)))
        (pss_cons (ps_for PassesOwn.never rfl (pi_list (pv 1)) (pg_name (i := 3) nd rfl (.inl rfl)) (pss_one (ps_set (i := 2) nd rfl (.inl rfl) (pe_c c2 hr (by decide) (by rfl) (pa_cons (pv 0) (pa_cons (pv 2) (pa_cons (pv 3) pa_nil)))))))
        (pss_one (ps_ret (pv 2)))), ?_⟩
      refine ⟨.ref b, rfl, b, S, rfl, hB, h1, h6, fun p0 H1 s1 hp0 => ⟨.ref a, rfl, a, rfl, ⟨_, s1.seq hL⟩, ?_⟩⟩
      refine for_list (xs := wv u) (fun i σ H2 => Same H H2 ∧ ∃ p y, σ = [some (.ref b), some (.ref a), some (.ref p), y] ∧ H2 p = some (.tup (rv S.n (pr S.w (u.take i) rho)))) ⟨s1, p0, _, rfl, hp0⟩ (fun i σ H2 _ z => z.1.seq hL) (fun i x σ H2 hx z => ?_) (fun σ H2 z => ?_)
      · obtain ⟨s2, p, y, rfl, hp⟩ := z
        obtain ⟨l, hl, rfl, hln⟩ := turn hx
        refine ⟨.ref b, rfl, .ref p, rfl, .int ((l : Nat) + 1), rfl, b, p, S, _, l, rfl, hB.same s2, hW, h6, SqT.of hp, hln, fun p' H3 s3 hp' => ⟨s2.trans s3, p', _, rfl, ?_⟩⟩
        rw [pr_take hl]
        exact hp'
      · obtain ⟨s2, p, y, rfl, hp⟩ := z
        rw [wv_len, List.take_of_length_le (Nat.le_refl _)] at hp
        exact ⟨.ref p, rfl, q p H2 s2 hp⟩
    · refine ⟨_, pss_cons (ps_set (i := 2) nd rfl (.inl rfl) (pe_c c1 hr (by decide) (by rfl) (pa_cons (pv 0) pa_nil)))
        (pss_cons (ps_for PassesOwn.never rfl (pi_tup (pv 1)) (pg_name (i := 3) nd rfl (.inl rfl)) (pss_one (ps_set (i := 2) nd rfl (.inl rfl) (pe_c c2 hr (by decide) (by rfl) (pa_cons (pv 0) (pa_cons (pv 2) (pa_cons (pv 3) pa_nil)))))))
        (pss_one (ps_ret (pv 2)))), ?_⟩
      refine ⟨.ref b, rfl, b, S, rfl, hB, h1, h6, fun p0 H1 s1 hp0 => ⟨.ref a, rfl, a, rfl, ⟨_, Same.tup s1 hT⟩, ?_⟩⟩
      refine for_tup (xs := wv u) (fun i σ H2 => Same H H2 ∧ ∃ p y, σ = [some (.ref b), some (.ref a), some (.ref p), y] ∧ H2 p = some (.tup (rv S.n (pr S.w (u.take i) rho)))) ⟨s1, p0, _, rfl, hp0⟩ (fun i σ H2 _ z => Same.tup z.1 hT) (fun i x σ H2 hx z => ?_) (fun σ H2 z => ?_)
      · obtain ⟨s2, p, y, rfl, hp⟩ := z
        obtain ⟨l, hl, rfl, hln⟩ := turn hx
        refine ⟨.ref b, rfl, .ref p, rfl, .int ((l : Nat) + 1), rfl, b, p, S, _, l, rfl, hB.same s2, hW, h6, SqT.of hp, hln, fun p' H3 s3 hp' => ⟨s2.trans s3, p', _, rfl, ?_⟩⟩
        rw [pr_take hl]
        exact hp'
      · obtain ⟨s2, p, y, rfl, hp⟩ := z
        rw [wv_len, List.take_of_length_le (Nat.le_refl _)] at hp
        exact ⟨.ref p, rfl, q p H2 s2 hp⟩
def spBelow (K : PySem.W.Frag) : Sp := fun vs H Q _ => ∃ (p : Addr) (n : Nat) (r : Row), vs = [.ref p] ∧ n ≤ 6 ∧ SqT K H p (rv n r) ∧ ∀ p' H', Same H H' → SqT K H' p' (wv (bl n r)) → Q (.ref p') H'
theorem bl_le (n : Nat) (r : Row) : (bl n r).length ≤ n := by
  have := List.length_filter_le (fun i => decide (r i < 0)) (List.range n)
  rw [List.length_range] at this
  exact this
theorem bl_succ (n : Nat) (r : Row) : bl (n + 1) r = if r n < 0 then bl n r ++ [n] else bl n r := by
  unfold bl
  rw [List.range_succ, List.filter_append]
  by_cases h : r n < 0
  · simp [h]
  · simp [h]
theorem ok_below (G : GD K mg "below" s_below) (m1 : mg "tuple" = none) (m2 : mg "enumerate" = none) : Cal P w K mg base 1 "below" (spBelow K) [] := by
  refine cal_of (N := ["row", "place", "number"]) (ps := ["row"]) G ⟨rfl, rfl, rfl, by decide +kernel, rfl, by decide +kernel, by decide +kernel⟩ (fun _ _ _ _ _ _ us hl => match us, hl with | [_], _ => rfl) (fun vs H Q E h => ?_) (fun f cdv A outer s H vs Q E hr h => ?_)
  · obtain ⟨a, _, _, rfl, _⟩ := h
    rfl
  · obtain ⟨p, n, r, rfl, h6, hp, q⟩ := h
    have nd : (["row", "place", "number"] : List Str).Nodup := by decide +kernel
    refine ⟨_, (pss_one (ps_ret (pe_callTy call_tupOf (by rfl) m1 boot_tuple (pa_cons (pe_lc (own := [("place", 1), ("number", 2)]) (g := gTup K 2 (gCons (gName 1) (gCons (gName 2) gNil))) (by rfl) nd (pi_enumT (by rfl) m2 (pa_cons (pv 0) pa_nil)) (blkOk_by (own := [("place", 1), ("number", 2)]) (N := ["row", "place", "number"]) (sc := defScope s_below) (by decide +kernel))
        (fun _ _ _ _ _ => pg_tup rfl (pgs_cons (pg_name (i := 1) nd rfl (.inl rfl)) (pgs_cons (pg_name (i := 2) nd rfl (.inl rfl)) pgs_nil))) (fun _ _ _ _ _ => pts_one (pt_cmpR op_lt (pv 2) pe_int (nomark _)))
        (fun _ _ _ _ _ => pe_op op_add (pv 1) pe_int)) pa_nil)))), ?_⟩
    refine ⟨.ref p, rfl, p, _, rfl, hp, fun D nD => ?_⟩
    refine lc_it walk_enumT (fun j H2 => H2 D = some (.lst (wv (bl j r))) ∧ ∀ b o, H b = some o → H2 b = some o) ⟨upd_same, fun b o e => same_upd nD b o e⟩ (fun j H2 _ z => Same.tup z.2 hp) (fun j x H2 H3 hj z hy => ?_) (fun H2 z => ?_)
    · obtain ⟨eD, s2⟩ := z
      obtain ⟨T, x1, x2, rfl, nT, rfl, e1, e2⟩ := hy
      cases Option.some.inj e1
      rw [rv_len] at hj
      cases Option.some.inj (e2.symm.trans (rv_at hj))
      have s3 : Same H (upd H2 T (.tup [.int (j : Nat), .int (r j)])) := fun b o e => same_upd nT b o (s2 b o e)
      have eD3 : (upd H2 T (.tup [.int (j : Nat), .int (r j)])) D = some (.lst (wv (bl j r))) := by
        rw [upd_ne (fun z => by rw [z, nT] at eD; cases eD)]
        exact eD
      refine ⟨T, _, rfl, .inl (.inl upd_same), rfl, _, _, rfl, _, _, rfl, rfl, rfl, .int (r j), rfl, r j, 0, rfl, rfl, _, rfl, ?_⟩
      by_cases hn : r j < 0
      · rw [decide_eq_true hn]
        refine ⟨.int (j : Nat), rfl, _, 1, rfl, rfl, wv (bl j r), eD3, ?_, ?_, ?_⟩
        · rw [wv_len]
          exact small1000 (by have := bl_le j r; omega)
        · rw [upd_same, bl_succ, if_pos hn]
          unfold wv
          rw [List.map_append]
          rfl
        · intro b' o e
          rw [upd_ne (ne_of_none e nD)]
          exact s3 b' o e
      · rw [decide_eq_false hn]
        refine ⟨?_, s3⟩
        rw [bl_succ, if_neg hn]
        exact eD3
    · obtain ⟨eD, s2⟩ := z
      rw [rv_len] at eD
      exact ⟨D, _, rfl, .inl ⟨.inl (.inl eD), fun l nl => q l _ (fun b o e => same_upd nl b o (s2 b o e)) (.inl (.inl upd_same))⟩⟩
end
end Bw
-- WkI
set_option autoImplicit true
set_option maxRecDepth 512
set_option Elab.async false
set_option linter.all false
set_option maxRecDepth 100000
set_option maxHeartbeats 1000000
/-! WkI: tuples of ints as data. -/
namespace Bw
open PySem PySem.Spec PyProof.Rows L2 C8
theorem dp_ints {K : PySem.W.Frag} {H : Hp} : ∀ ns : List Int, DpAll K H (ns.map V.int) (ns.map PyData.int)
  | [] => .nil
  | n :: ns => .cons (.int n) (dp_ints ns)
theorem dp_tup {K : PySem.W.Frag} {H : Hp} {a : Addr} {ns : List Int} (h : SqT K H a (ns.map V.int)) : Dp K H (.ref a) (.tuple (ns.map PyData.int)) := .tup h (dp_ints ns)
theorem shaped_ints (ns : List Int) : SeqAt.shaped (.tuple (ns.map PyData.int)) = true := by
  have h1 : ∀ ns : List Int, PyData.canLayAll0 (ns.map PyData.int) = true := by
    intro ns
    induction ns with
    | nil => simp [PyData.canLayAll0]
    | cons n ns ih => simp [PyData.canLayAll0, PyData.canLay0, ih]
  have h2 : ∀ ns : List Int, PyData.depthAll (ns.map PyData.int) ≤ 1 := by
    intro ns
    induction ns with
    | nil => simp [PyData.depthAll]
    | cons n ns ih => simp [PyData.depthAll, PyData.depth]; omega
  have := h2 ns
  simp [SeqAt.shaped, PyData.canLay0, PyData.depth, h1]
  omega
theorem eqv_ints : ∀ ns ms : List Int, PyData.eqv (.tuple (ns.map PyData.int)) (.tuple (ms.map PyData.int)) = decide (ns = ms) := by
  have key : ∀ ns ms : List Int, PyData.eqvAll (ns.map PyData.int) (ms.map PyData.int) = decide (ns = ms) := by
    intro ns
    induction ns with
    | nil =>
      intro ms
      cases ms <;> simp [PyData.eqvAll]
    | cons n ns ih =>
      intro ms
      cases ms with
      | nil => simp [PyData.eqvAll]
      | cons m ms =>
        simp [PyData.eqvAll, PyData.eqv, ih]
        by_cases h : n = m <;> simp [h]
  intro ns ms
  simp [PyData.eqv, key]
end Bw
-- WkJ
set_option autoImplicit true
set_option maxRecDepth 512
set_option Elab.async false
set_option linter.all false
set_option maxRecDepth 100000
set_option maxHeartbeats 1000000
/-! WkJ: undone. -/
namespace Bw
open PySem PySem.Spec PyProof.Rows L2 C8
theorem wv_ints (u : List Nat) : wv u = (u.map fun (l : Nat) => ((l : Nat) + 1 : Int)).map V.int := by unfold wv; rw [List.map_map]; rfl
theorem rv_ints (n : Nat) (r : Row) : rv n r = ((List.range n).map r).map V.int := by unfold rv; rw [List.map_map]; rfl
theorem SqT.updL {K : PySem.W.Frag} {H : Hp} {a D : Addr} {xs ys zs : List V} (h : SqT K H a xs) (e : H D = some (.lst ys)) : SqT K (upd H D (.lst zs)) a xs := by
  rcases h with (h | ⟨o, h⟩) | h
  · exact .inl (.inl (by rw [upd_ne (fun z => by rw [z, e] at h; cases h)]; exact h))
  · exact .inl (.inr ⟨o, by rw [upd_ne (fun z => by rw [z, e] at h; cases h)]; exact h⟩)
  · exact .inr h
section
variable {P : Program} {w : World} {K : PySem.W.Frag} {mg : Str → Option Value} {base : Heap} {C : Addr}
def spUndone (K : PySem.W.Frag) (C : Addr) : Sp := fun vs H Q _ => ∃ (b p : Addr) (S : Sys) (k : Nat) (r : Row), vs = [.ref b, .ref p] ∧ Bo K C H b S ∧ Wt S ∧ 1 ≤ S.n ∧ S.n ≤ 6 ∧ SqT K H p (rv S.n r) ∧ Reach S k r ∧ k ≤ 59 ∧ ∀ p' H', Same H H' → SqT K H' p' (wv (lw S k r)) → Q (.ref p') H'
theorem ok_undone (G : GD K mg "undone" s_undone) (c1 : Cal P w K mg base 1 "below" (spBelow K) []) (c2 : Cal P w K mg base 5 "pressed" (spPressed K C) []) (c3 : Cal P w K mg base 3 "start" (spStart K C) []) (m1 : mg "len" = none) (m2 : mg "tuple" = none) {v60 : Value} (m3 : mg "MOST_WORD" = some v60) (h60 : RelV (.int 60) v60) :
    Cal P w K mg base 6 "undone" (spUndone K C) [] := by
  refine cal_of (N := ["bonds", "row", "found", "here"]) (ps := ["bonds", "row"]) G ⟨rfl, rfl, rfl, by decide +kernel, rfl, by decide +kernel, by decide +kernel⟩ (fun _ _ _ _ _ _ us hl => match us, hl with | [_, _], _ => rfl) (fun vs H Q E h => ?_) (fun f cdv A outer s H vs Q E hr h => ?_)
  · obtain ⟨a, _, _, _, _, rfl, _⟩ := h
    rfl
  · obtain ⟨b, p, S, k, r, rfl, hB, hW, h1, h6, hp, hk, h59, q⟩ := h
    have nd : (["bonds", "row", "found", "here"] : List Str).Nodup := by decide +kernel
    refine ⟨_, pss_cons (ps_par (i := 2) (j := 3) (by rfl) nd rfl rfl (by decide) rfl rfl (pa_cons (pe_lst pa_nil) (pa_cons (pv 1) pa_nil)) (by rfl))
      (pss_cons (ps_while PassesOwn.never (PW.pt (pw_and (pt_cmpR (op_neD hr.units) (pe_c c1 hr (by decide) (by rfl) (pa_cons (pv 3) pa_nil)) (pe_tup pa_nil) (nomark _)) (pw_and1 (pt_cmpR op_lt (pe_callB call_len (by rfl) m1 boot_len (pa_cons (pv 2) pa_nil)) (pe_glob (v := .int 60) (by rfl) m3 h60) (nomark _)))))
        (pss_cons (ps_expr (pe_bm PySem.F.plainAttrs_list PySem.F.slot_list_append PySem.F.type_list_append mt_append (pv 2) (pa_cons (pe_ix ix_tup (pe_c c1 hr (by decide) (by rfl) (pa_cons (pv 3) pa_nil)) pe_int (fun _ _ => rfl)) pa_nil)))
        (pss_one (ps_set (i := 3) nd rfl (.inl rfl) (pe_c c2 hr (by decide) (by rfl) (pa_cons (pv 0) (pa_cons (pv 3) (pa_cons (pe_ix ix_list (pv 2) (pe_un un_neg pe_int) (fun _ _ => rfl)) pa_nil))))))))
      (pss_one (ps_ret (pe_ifExp (pt_cmpR (op_eqD hr.units) (pv 3) (pe_c c3 hr (by decide) (by rfl) (pa_cons (pv 0) pa_nil)) (nomark _)) (pe_callTy call_tupOf (by rfl) m2 boot_tuple (pa_cons (pv 2) pa_nil)) pe_non)))), ?_⟩
    refine ⟨Nat.zero_le _, fun D nD => ⟨.ref p, rfl, .ref D, .ref p, rfl, ?_⟩⟩
    refine while_by (fun σ H2 => ∃ (i : Nat) (hp2 : Addr), i ≤ k ∧ σ = [some (.ref b), some (.ref p), some (.ref D), some (.ref hp2)] ∧ (∀ b o, H b = some o → H2 b = some o) ∧ H2 D = some (.lst (wv ((lw S k r).take i))) ∧ SqT K H2 hp2 (rv S.n (pr S.w ((lw S k r).take i) r)))
      (fun _ H2 => match H2 D with | some (.lst xs) => k - xs.length | _ => 0) ⟨0, p, Nat.zero_le _, rfl, fun b o e => same_upd nD b o e, upd_same, Same.tup (same_upd nD) hp⟩ (fun σ H2 z => ?_) (fun σ H Q Q' hm z => ?_)
    · obtain ⟨i, hp2, hi, rfl, s2, eD, hp2T⟩ := z
      obtain ⟨hreach, hstep⟩ := lw_at hk i hi
      have hlen : ((lw S k r).take i).length = i := by rw [List.length_take, lw_len hk]; omega
      have eDl : ∀ {H3 : Hp}, Same H2 H3 → LenV K (.ref D) H3 i := fun s3 => .inl ⟨_, .inl (.inl (s3 _ _ eD)), by rw [wv_len, hlen]⟩
      refine ⟨.ref hp2, rfl, hp2, S.n, _, rfl, h6, hp2T, fun p3 H3 s3 hp3 => ⟨Nat.zero_le _, fun t ht => ?_⟩⟩
      have s4 := s3.trans (same_upd (o := .tup []) ht)
      refine ⟨_, _, dp_tup (ns := (bl S.n (pr S.w ((lw S k r).take i) r)).map fun (l : Nat) => ((l : Nat) + 1 : Int)) (by rw [← wv_ints]; exact Same.tup (same_upd ht) hp3), dp_tup (ns := []) (.inl (.inl upd_same)), shaped_ints _, shaped_ints _, _, rfl, ?_⟩
      rw [eqv_ints]
      by_cases hik : i < k
      · obtain ⟨a, l, eb, ea, han⟩ := hstep hik
        rw [eb]
        rw [show (!decide (List.map (fun (l : Nat) => ((l : Nat) + 1 : Int)) (a :: l) = [])) = true from rfl]
        refine ⟨.ref D, rfl, .ref D, i, rfl, eDl s4, _, _, rfl, rfl, _, rfl, ?_⟩
        rw [decide_eq_true (show ((i : Nat) : Int) < 60 by omega)]
        have eD4 := s4 _ _ eD
        refine ⟨.ref D, rfl, .inl ⟨rfl, _, .inl (.inl eD4)⟩, .ref hp2, rfl, hp2, S.n, _, rfl, h6, Same.tup s4 hp2T, fun p5 H5 s5 hp5 => ?_⟩
        rw [eb] at hp5
        have s6 := s4.trans s5
        have eD5 := s5 _ _ eD4
        have hpr : pr S.w ((lw S k r).take (i + 1)) r = press S.w a (pr S.w ((lw S k r).take i) r) := pr_take ea r
        have etk : wv ((lw S k r).take (i + 1)) = wv ((lw S k r).take i) ++ [.int ((a : Nat) + 1)] := by
          unfold wv
          rw [List.take_add_one, ea, List.map_append]
          rfl
        refine ⟨p5, _, 0, _, rfl, rfl, hp5, atI_nat (j := 0) rfl, D, _, _, rfl, rfl, eD5, small1000 (by rw [wv_len, hlen]; omega), ?_⟩
        have nDD : ∀ {b' : Addr} {o : HO}, H b' = some o → b' ≠ D := fun e => ne_of_none e nD
        have s7 : ∀ b' o, H b' = some o → (upd H5 D (.lst (wv ((lw S k r).take i) ++ [.int ((a : Nat) + 1)]))) b' = some o := fun b' o e => by
          rw [upd_ne (nDD e)]
          exact s6 _ _ (s2 _ _ e)
        refine ⟨.ref b, rfl, .ref hp2, rfl, .ref D, rfl, 1, rfl, D, _, _, _, rfl, rfl, .inl (.inl upd_same), atI_last _ _, b, hp2, S, _, a, rfl, hB.same s7, hW, h6, SqT.updL (Same.tup s6 hp2T) eD5, han, fun p8 H8 s8 hp8 => ⟨⟨i + 1, p8, hik, rfl, fun b' o e => s8 _ _ (s7 b' o e), ?_, ?_⟩, ?_⟩⟩
        · rw [etk]
          exact s8 _ _ upd_same
        · rw [hpr]
          exact SqT.of hp8
        · show (match H8 D with | some (.lst xs) => k - xs.length | _ => 0) < (match H2 D with | some (.lst xs) => k - xs.length | _ => 0)
          rw [eD, show H8 D = _ from s8 _ _ upd_same]
          show k - (wv ((lw S k r).take i) ++ [V.int ((a : Nat) + 1)]).length < k - (wv ((lw S k r).take i)).length
          rw [List.length_append, wv_len, hlen]
          show k - (i + 1) < k - i
          omega
      · have hik2 : i = k := by omega
        subst hik2
        rw [(bl_nil hreach).mpr (by omega)]
        have er := Reach.zero_iff.mp (show Reach S 0 _ by rw [Nat.sub_self] at hreach; exact hreach)
        rw [er] at hp2T
        refine ⟨.ref hp2, rfl, .ref b, rfl, b, S, rfl, hB.same (Same.trans s2 s4), h1, h6, fun p9 H9 s9 hp9 => ?_⟩
        refine ⟨_, _, dp_tup (ns := (List.range S.n).map rho) (by rw [← rv_ints]; exact Same.tup (s4.trans s9) hp2T), dp_tup (ns := (List.range S.n).map rho) (by rw [← rv_ints]; exact SqT.of hp9), shaped_ints _, shaped_ints _, _, rfl, ?_⟩
        rw [eqv_ints, decide_eq_true rfl]
        refine ⟨.ref D, rfl, D, _, rfl, .inl ⟨.inl (.inl (s9 _ _ (s4 _ _ eD))), fun l nl => q l _ (fun b' o e => same_upd nl _ _ (s9 _ _ (s4 _ _ (s2 _ _ e)))) (.inl (.inl ?_))⟩⟩
        rw [upd_same, List.take_of_length_le (by rw [lw_len hk]; exact Nat.le_refl _)]
    · obtain ⟨x, e, p', n', r', e1, h6', hp', q'⟩ := z
      refine ⟨x, e, p', n', r', e1, h6', hp', fun a H1 s1 h1 => ?_⟩
      obtain ⟨l0, q2⟩ := q' a H1 s1 h1
      refine ⟨l0, fun t ht => ?_⟩
      obtain ⟨d, e2, a1, a2, a3, a4, c, ec, q3⟩ := q2 t ht
      refine ⟨d, e2, a1, a2, a3, a4, c, ec, ?_⟩
      cases c with
      | true =>
        obtain ⟨y, ey, z1, n1, f1, f2, i1, j1, g1, g2, c1, g3, q4⟩ := q3
        exact ⟨y, ey, z1, n1, f1, f2, i1, j1, g1, g2, c1, g3, hm _ _ q4⟩
      | false => exact hm _ _ q3
end
end Bw
-- WkK
set_option autoImplicit true
set_option maxRecDepth 512
set_option Elab.async false
set_option linter.all false
set_option maxRecDepth 100000
set_option maxHeartbeats 1000000
/-! WkK: need_led, is_shortest_by. -/
namespace Bw
open PySem PySem.Spec PyProof.Rows L2 C8
theorem SqA.len {K : PySem.W.Frag} {H : Hp} {a : Addr} {u : List Nat} (h : SqA K H a (wv u)) : LenV K (.ref a) H u.length := by
  rcases h with z | z
  · exact .inl ⟨_, z, by rw [wv_len]⟩
  · exact .inr ⟨_, z, by rw [wv_len]⟩
section
variable {P : Program} {w : World} {K : PySem.W.Frag} {mg : Str → Option Value} {base : Heap} {C : Addr}
def spNeedLed (K : PySem.W.Frag) (C : Addr) : Sp := fun vs H Q _ => ∃ (b a : Addr) (S : Sys) (u : List Nat), vs = [.ref b, .ref a] ∧ Bo K C H b S ∧ S.n ≤ 6 ∧ SqA K H a (wv u) ∧ u.length ≤ 16 ∧ (∀ l ∈ u, l < S.n) ∧ ∀ H', Same H H' → Q .non H'
theorem ok_need_led (G : GD K mg "need_led" s_need_led) (c1 : Cal P w K mg base 3 "need_word" (spNeedW K C) []) (m1 : mg "len" = none) {v16 : Value} (m3 : mg "MOST_LED" = some v16) (h16 : RelV (.int 16) v16) :
    Cal P w K mg base 4 "need_led" (spNeedLed K C) [] := by
  refine cal_of (N := ["bonds", "word"]) (ps := ["bonds", "word"]) G ⟨rfl, rfl, rfl, by decide +kernel, rfl, by decide +kernel, by decide +kernel⟩ (fun _ _ _ _ _ _ us hl => match us, hl with | [_, _], _ => rfl) (fun vs H Q E h => ?_) (fun f cdv A outer s H vs Q E hr h => ?_)
  · obtain ⟨a, _, _, _, rfl, _⟩ := h
    rfl
  · obtain ⟨b, a, S, u, rfl, hB, hn, hA, h16', hlt, q⟩ := h
    refine ⟨_, pss_cons (ps_expr (pe_c c1 hr (by decide) (by rfl) (pa_cons (pv 0) (pa_cons (pv 1) pa_nil))))
      (pss_one (ps_if (pt_cmpR op_gt (pe_callB call_len (by rfl) m1 boot_len (pa_cons (pv 1) pa_nil)) (pe_glob (v := .int 16) (by rfl) m3 h16) (nomark _)) (pss_one ps_never) pss_nil)), ?_⟩
    refine ⟨.ref b, rfl, .ref a, rfl, b, a, S, u, rfl, hB, hn, hA, by omega, hlt, fun H1 s1 => ?_⟩
    refine ⟨.ref a, rfl, .ref a, u.length, rfl, (hA.same s1).len, _, _, rfl, rfl, _, rfl, ?_⟩
    rw [show decide ((16 : Int) < (u.length : Nat)) = false from decide_eq_false fun z => by omega]
    exact q H1 s1
def spShortBy (K : PySem.W.Frag) (C : Addr) : Sp := fun vs H Q _ => ∃ (b a : Addr) (S : Sys) (u : List Nat), vs = [.ref b, .ref a] ∧ Bo K C H b S ∧ Wt S ∧ 1 ≤ S.n ∧ S.n ≤ 6 ∧ SqA K H a (wv u) ∧ (∀ l ∈ u, l < S.n) ∧ u.length ≤ 59 ∧ Reach S u.length (pr S.w u rho) ∧ ∀ H', Same H H' → Q (.bl true) H'
end
end Bw
-- Bw3
set_option autoImplicit true
set_option maxRecDepth 512
set_option Elab.async false
set_option linter.all false
/-! Bw3: the list of all words is ascending; how long it is; its items by number; turns lead to all. -/
namespace Bw
/-! ### the order of words -/
def ltW : List Nat → List Nat → Prop
  | [], [] => False
  | [], _ :: _ => True
  | _ :: _, [] => False
  | a :: u, b :: v => a < b ∨ (a = b ∧ ltW u v)
theorem ltW_irrefl : ∀ u, ¬ ltW u u
  | [], h => h
  | a :: u, h => by
    rcases h with h | ⟨_, h⟩
    · exact Nat.lt_irrefl _ h
    · exact ltW_irrefl u h
theorem ltW_asymm : ∀ u v, ltW u v → ¬ ltW v u
  | [], [], h, _ => h
  | [], _ :: _, _, h => h
  | _ :: _, [], h, _ => h
  | a :: u, b :: v, h, h' => by
    rcases h with h | ⟨e, h⟩ <;> rcases h' with h' | ⟨e', h'⟩
    · omega
    · omega
    · omega
    · exact ltW_asymm u v h h'
theorem wl_nodup_ne {u v : List Nat} (h : ltW u v) : u ≠ v := fun e => by subst e; exact ltW_irrefl u h
theorem pairwise_flatMap' {α β : Type} {R : β → β → Prop} {f : α → List β} : ∀ {l : List α}, (∀ a ∈ l, (f a).Pairwise R) → l.Pairwise (fun a b => ∀ x ∈ f a, ∀ y ∈ f b, R x y) → (l.flatMap f).Pairwise R
  | [], _, _ => List.Pairwise.nil
  | a :: l, h1, h2 => by
    rw [List.flatMap_cons, List.pairwise_append]
    rw [List.pairwise_cons] at h2
    refine ⟨h1 a List.mem_cons_self, pairwise_flatMap' (fun b hb => h1 b (List.mem_cons_of_mem _ hb)) h2.2, fun x hx y hy => ?_⟩
    obtain ⟨b, hb, hy⟩ := List.mem_flatMap.mp hy
    exact h2.1 b hb x hx y hy
theorem wl_sorted (S : Sys) : ∀ (k : Nat) (r : Row), (wl S k r).Pairwise ltW
  | 0, r => by
    show ([[]] : List (List Nat)).Pairwise ltW
    exact List.pairwise_singleton _ _
  | k + 1, r => by
    show ((bl S.n r).flatMap fun a => (wl S k (press S.w a r)).map (a :: ·)).Pairwise ltW
    refine pairwise_flatMap' (fun a _ => ?_) ?_
    · rw [List.pairwise_map]
      exact (wl_sorted S k _).imp fun h => .inr ⟨rfl, h⟩
    · refine (bl_sorted S.n r).imp fun {a b} h x hx y hy => ?_
      obtain ⟨u, _, rfl⟩ := List.mem_map.mp hx
      obtain ⟨v, _, rfl⟩ := List.mem_map.mp hy
      exact .inl h
theorem wl_nodup (S : Sys) (k : Nat) (r : Row) : (wl S k r).Nodup := (wl_sorted S k r).imp fun h => wl_nodup_ne h
/-- two ascending lists of the same are equal -/
theorem asc_ext : ∀ {l m : List (List Nat)}, l.Pairwise ltW → m.Pairwise ltW → (∀ u, u ∈ l ↔ u ∈ m) → l = m
  | [], [], _, _, _ => rfl
  | [], b :: m, _, _, h => by have := (h b).mpr List.mem_cons_self; cases this
  | a :: l, [], _, _, h => by have := (h a).mp List.mem_cons_self; cases this
  | a :: l, b :: m, hl, hm, h => by
    rw [List.pairwise_cons] at hl hm
    have e : a = b := by
      rcases List.mem_cons.mp ((h a).mp List.mem_cons_self) with e | e
      · exact e
      · rcases List.mem_cons.mp ((h b).mpr List.mem_cons_self) with e' | e'
        · exact e'.symm
        · exact absurd (hl.1 b e') (ltW_asymm _ _ (hm.1 a e))
    subst e
    rw [asc_ext hl.2 hm.2 fun u => ?_]
    constructor
    · intro hu
      rcases List.mem_cons.mp ((h u).mp (List.mem_cons_of_mem _ hu)) with e | e
      · subst e
        exact absurd (hl.1 _ hu) (ltW_irrefl _)
      · exact e
    · intro hu
      rcases List.mem_cons.mp ((h u).mpr (List.mem_cons_of_mem _ hu)) with e | e
      · subst e
        exact absurd (hm.1 _ hu) (ltW_irrefl _)
      · exact e
theorem wl_len {S : Sys} {k : Nat} {r : Row} (h : Reach S k r) : ∀ u ∈ wl S k r, u.length = k := fun u hu => ((mem_wl h).mp hu).len h
theorem wl_lt {S : Sys} {k : Nat} {r : Row} (h : Reach S k r) : ∀ u ∈ wl S k r, ∀ a ∈ u, a < S.n := fun u hu => ((mem_wl h).mp hu).lt
theorem wl_head {S : Sys} : ∀ {k : Nat} {r : Row}, Reach S k r → (wl S k r)[0]? = some (lw S k r)
  | 0, r, h => rfl
  | k + 1, r, h => by
    obtain ⟨a, l, e, _, _, hr, e2⟩ := lw_step h
    have ih := wl_head hr
    show ((bl S.n r).flatMap fun a => (wl S k (press S.w a r)).map (a :: ·))[0]? = _
    rw [e, List.flatMap_cons, e2]
    have hl : 0 < (wl S k (press S.w a r)).length := (List.getElem?_eq_some_iff.mp ih).1
    rw [List.getElem?_append_left (by rw [List.length_map]; exact hl), List.getElem?_map, ih]
    rfl
theorem wl_pos {S : Sys} {k : Nat} {r : Row} (h : Reach S k r) : 0 < (wl S k r).length := (List.getElem?_eq_some_iff.mp (wl_head h)).1

/-! ### how many -/
theorem w_nn {S : Sys} {a b : Nat} (ha : a < S.n) (hb : b < S.n) (hab : a ≠ b) : 0 ≤ S.w a b := by
  rcases S.kind a b ha hb hab with ⟨_, e, _⟩ | ⟨_, e, _⟩ | ⟨_, e, _⟩ | ⟨_, e, _⟩ | ⟨_, e, _⟩ | ⟨_, e, _⟩ | ⟨_, e, _⟩ <;> rw [e] <;> decide
theorem neg_stays {S : Sys} {a b : Nat} {r : Row} (ha : a < S.n) (hb : b < S.n) (hab : a ≠ b) (h1 : r a < 0) (h2 : r b < 0) : press S.w a r b < 0 := by
  show r b + S.w a b * r a < 0
  have := Int.mul_nonpos_of_nonneg_of_nonpos (w_nn ha hb hab) (Int.le_of_lt h1)
  omega
theorem nodup_len : ∀ {l m : List Nat}, l.Nodup → (∀ a ∈ l, a ∈ m) → l.length ≤ m.length
  | [], _, _, _ => Nat.zero_le _
  | a :: l, m, h1, h2 => by
    rw [List.nodup_cons] at h1
    have hm := h2 a List.mem_cons_self
    have z : l.length ≤ (m.erase a).length := nodup_len h1.2 fun b hb => by
      have : b ≠ a := fun e => h1.1 (e ▸ hb)
      exact (List.mem_erase_of_ne this).mpr (h2 b (List.mem_cons_of_mem _ hb))
    rw [List.length_erase_of_mem hm] at z
    have : 0 < m.length := List.length_pos_of_mem hm
    simp only [List.length_cons]
    omega
theorem negs_le {S : Sys} : ∀ {k : Nat} {r : Row} (l : List Nat), Reach S k r → l.Nodup → (∀ a ∈ l, a < S.n ∧ r a < 0) → l.length ≤ k
  | k, r, [], _, _, _ => Nat.zero_le _
  | k, r, a :: l, h, hn, hl => by
    obtain ⟨ha, na⟩ := hl a List.mem_cons_self
    obtain ⟨j, e, hr⟩ := h.dn ha na
    rw [List.nodup_cons] at hn
    have := negs_le l hr hn.2 fun b hb => by
      obtain ⟨hb1, hb2⟩ := hl b (List.mem_cons_of_mem _ hb)
      exact ⟨hb1, neg_stays ha hb1 (fun e => hn.1 (e ▸ hb)) na hb2⟩
    simp only [List.length_cons]
    omega
theorem bl_nodup (n : Nat) (r : Row) : (bl n r).Nodup := (bl_sorted n r).imp fun h => Nat.ne_of_lt h
theorem bl_len {S : Sys} {k : Nat} {r : Row} (h : Reach S k r) : (bl S.n r).length ≤ k := negs_le _ h (bl_nodup _ _) fun a ha => mem_bl.mp ha
theorem bl_len_n (n : Nat) (r : Row) : (bl n r).length ≤ n := by
  have := nodup_len (bl_nodup n r) (m := List.range n) fun a ha => List.mem_range.mpr (mem_bl.mp ha).1
  rwa [List.length_range] at this
/-- a bound of how many words with so many letters -/
def wb : Nat → Nat
  | 0 => 1
  | k + 1 => min 6 (k + 1) * wb k
theorem flat_len {α β : Type} {f : α → List β} {m : Nat} : ∀ {l : List α}, (∀ a ∈ l, (f a).length ≤ m) → (l.flatMap f).length ≤ l.length * m
  | [], _ => by simp
  | a :: l, h => by
    rw [List.flatMap_cons, List.length_append, List.length_cons, Nat.add_mul]
    have := flat_len fun b hb => h b (List.mem_cons_of_mem _ hb)
    have := h a List.mem_cons_self
    omega
theorem wl_le {S : Sys} (h6 : S.n ≤ 6) : ∀ {k : Nat} {r : Row}, Reach S k r → (wl S k r).length ≤ wb k
  | 0, r, _ => Nat.le_refl 1
  | k + 1, r, h => by
    show ((bl S.n r).flatMap fun a => (wl S k (press S.w a r)).map (a :: ·)).length ≤ min 6 (k + 1) * wb k
    refine Nat.le_trans (flat_len (m := wb k) fun a ha => ?_) (Nat.mul_le_mul_right _ ?_)
    · obtain ⟨h1, h2⟩ := mem_bl.mp ha
      obtain ⟨j, e, hr⟩ := h.dn h1 h2
      have ej : j = k := by omega
      subst ej
      rw [List.length_map]
      exact wl_le h6 hr
    · have := bl_len h
      have := bl_len_n S.n r
      omega
theorem wb_mono : ∀ {j k : Nat}, j ≤ k → wb j ≤ wb k := by
  intro j k h
  induction h with
  | refl => exact Nat.le_refl _
  | @step m h ih =>
    refine Nat.le_trans ih ?_
    show wb m ≤ min 6 (m + 1) * wb m
    exact Nat.le_mul_of_pos_left _ (by omega)
theorem wb9 : wb 9 = 155520 := by decide

/-! ### by number -/
/-- the words that begin with some letters -/
def fl (S : Sys) (k : Nat) (r : Row) (l : List Nat) : List (List Nat) := l.flatMap fun a => (wl S k (press S.w a r)).map (a :: ·)
theorem wl_fl (S : Sys) (k : Nat) (r : Row) : wl S (k + 1) r = fl S k r (bl S.n r) := rfl
theorem fl_nil (S : Sys) (k : Nat) (r : Row) : fl S k r [] = [] := rfl
theorem fl_cons (S : Sys) (k : Nat) (r : Row) (a : Nat) (l : List Nat) : fl S k r (a :: l) = (wl S k (press S.w a r)).map (a :: ·) ++ fl S k r l := List.flatMap_cons ..
theorem fl_append (S : Sys) (k : Nat) (r : Row) (l m : List Nat) : fl S k r (l ++ m) = fl S k r l ++ fl S k r m := List.flatMap_append ..
theorem fl_len (S : Sys) (k : Nat) (r : Row) : ∀ l : List Nat, (fl S k r l).length = (l.map fun a => (wl S k (press S.w a r)).length).sum
  | [] => rfl
  | a :: l => by rw [fl_cons, List.length_append, List.length_map, fl_len S k r l]; rfl
/-- the number of a word -/
def idx (S : Sys) : Nat → Row → List Nat → Nat
  | 0, _, _ => 0
  | _ + 1, _, [] => 0
  | k + 1, r, a :: u => (fl S k r ((bl S.n r).filter fun b => decide (b < a))).length + idx S k (press S.w a r) u
theorem asc_filter : ∀ {l : List Nat} {a : Nat}, l.Pairwise (· < ·) → a ∈ l → ∃ m, l = (l.filter fun b => decide (b < a)) ++ a :: m
  | [], a, _, h => by cases h
  | b :: l, a, h, hm => by
    rw [List.pairwise_cons] at h
    rcases List.mem_cons.mp hm with e | e
    · subst e
      refine ⟨l, ?_⟩
      have : (a :: l).filter (fun b => decide (b < a)) = [] := by
        rw [List.filter_eq_nil_iff]
        intro c hc
        rcases List.mem_cons.mp hc with e | e
        · subst e; simp
        · have := h.1 c e; simp; omega
      rw [this]; rfl
    · obtain ⟨m, hm⟩ := asc_filter h.2 e
      refine ⟨m, ?_⟩
      rw [List.filter_cons_of_pos (by have := h.1 a e; simpa using this), List.cons_append, ← hm]
theorem idx_at {S : Sys} : ∀ {k : Nat} {r : Row} {u : List Nat}, Reach S k r → IsW S r u → (wl S k r)[idx S k r u]? = some u
  | 0, r, u, h, hu => by
    have : u = [] := List.length_eq_zero_iff.mp (hu.len h)
    subst this
    rfl
  | k + 1, r, [], h, hu => by have := hu.len h; cases this
  | k + 1, r, a :: u, h, ⟨ha, hn, hu⟩ => by
    obtain ⟨j, e, hr⟩ := h.dn ha hn
    have ej : j = k := by omega
    subst ej
    obtain ⟨m, hm⟩ := asc_filter (bl_sorted S.n r) (mem_bl.mpr ⟨ha, hn⟩)
    rw [wl_fl]
    show (fl S j r (bl S.n r))[(fl S j r ((bl S.n r).filter fun b => decide (b < a))).length + idx S j (press S.w a r) u]? = _
    have ih := idx_at hr hu
    have e1 : fl S j r (bl S.n r) = fl S j r ((bl S.n r).filter fun b => decide (b < a)) ++ ((wl S j (press S.w a r)).map (a :: ·) ++ fl S j r m) := by
      conv => lhs; rw [hm]
      rw [fl_append, fl_cons]
    rw [e1, List.getElem?_append_right (Nat.le_add_right _ _), Nat.add_sub_cancel_left]
    have hl := (List.getElem?_eq_some_iff.mp ih).1
    rw [List.getElem?_append_left (by rw [List.length_map]; exact hl), List.getElem?_map, ih]
    rfl
theorem nodup_at {α : Type} {l : List α} (h : l.Nodup) {i j : Nat} {x : α} (h1 : l[i]? = some x) (h2 : l[j]? = some x) : i = j := by
  obtain ⟨a1, b1⟩ := List.getElem?_eq_some_iff.mp h1
  obtain ⟨a2, b2⟩ := List.getElem?_eq_some_iff.mp h2
  exact (List.getElem_inj h).mp (b1.trans b2.symm)
theorem idx_of {S : Sys} {k : Nat} {r : Row} {u : List Nat} {i : Nat} (h : Reach S k r) (hi : (wl S k r)[i]? = some u) : idx S k r u = i :=
  nodup_at (wl_nodup S k r) (idx_at h ((mem_wl h).mp (List.mem_of_getElem? hi))) hi

/-! ### turns -/
def mv (S : Sys) (u : List Nat) (k : Nat) : Option (List Nat) :=
  match u[k]?, u[k + 1]? with
  | some a, some b => if a = b then none else if S.m a b = 0 then none else if (u.drop k).take (S.m a b) = alt a b (S.m a b) then some (u.take k ++ alt b a (S.m a b) ++ u.drop (k + S.m a b)) else none
  | _, _ => none
theorem mv_some {S : Sys} {u v : List Nat} {k : Nat} (h : mv S u k = some v) : ∃ a b x, a ≠ b ∧ S.m a b ≠ 0 ∧ a ∈ u ∧ b ∈ u ∧ u = u.take k ++ (alt a b (S.m a b) ++ x) ∧ v = u.take k ++ (alt b a (S.m a b) ++ x) := by
  unfold mv at h
  split at h
  · rename_i a b ea eb
    split at h
    · cases h
    · rename_i hab
      split at h
      · cases h
      · rename_i hm
        split at h
        · rename_i ht
          refine ⟨a, b, u.drop (k + S.m a b), hab, hm, List.mem_of_getElem? ea, List.mem_of_getElem? eb, ?_, ?_⟩
          · rw [← ht]
            have e1 : (u.drop k).take (S.m a b) ++ u.drop (k + S.m a b) = u.drop k := by
              rw [← List.drop_drop, List.take_append_drop]
            rw [e1, List.take_append_drop]
          · rw [← Option.some.inj h, List.append_assoc]
        · cases h
  · cases h
theorem mv_isW {S : Sys} {k i : Nat} {r : Row} {u v : List Nat} (hr : Reach S k r) (hu : IsW S r u) (h : mv S u i = some v) : IsW S r v := by
  obtain ⟨a, b, x, hab, hm, ma, mb, eu, ev⟩ := mv_some h
  have ha := hu.lt a ma
  have hb := hu.lt b mb
  refine isW_of (fun c hc => ?_) hr ?_ ?_
  · rw [ev] at hc
    rcases List.mem_append.mp hc with q | q
    · exact hu.lt c (List.mem_of_mem_take q)
    · rcases List.mem_append.mp q with q | q
      · rcases alt_mem q with e | e
        · rw [e]; exact hb
        · rw [e]; exact ha
      · refine hu.lt c ?_
        rw [eu]
        exact List.mem_append_right _ (List.mem_append_right _ q)
  · have e := hu.pr
    rw [eu, pr_append, pr_append, braid ha hb hab hm] at e
    rw [ev, pr_append, pr_append]
    exact e
  · rw [← hu.len hr]
    have l1 : u.length = (u.take i).length + ((alt a b (S.m a b)).length + x.length) := by
      conv => lhs; rw [eu]
      rw [List.length_append, List.length_append]
    rw [ev, l1, List.length_append, List.length_append, alt_length, alt_length]
    exact Nat.le_refl _
theorem mv_alt {S : Sys} {a b : Nat} (hab : a ≠ b) (hm : S.m a b ≠ 0) (h2 : 2 ≤ S.m a b) (p x : List Nat) : mv S (p ++ (alt a b (S.m a b) ++ x)) p.length = some (p ++ (alt b a (S.m a b) ++ x)) := by
  obtain ⟨l, hl⟩ : ∃ l, S.m a b = l + 2 := ⟨S.m a b - 2, by omega⟩
  have e0 : (p ++ (alt a b (S.m a b) ++ x))[p.length]? = some a := by
    rw [List.getElem?_append_right (Nat.le_refl _), Nat.sub_self, hl]
    rfl
  have e1 : (p ++ (alt a b (S.m a b) ++ x))[p.length + 1]? = some b := by
    rw [List.getElem?_append_right (Nat.le_add_right _ _), Nat.add_sub_cancel_left, hl]
    rfl
  unfold mv
  rw [e0, e1]
  show (if a = b then none else if S.m a b = 0 then none else if List.take (S.m a b) (List.drop p.length (p ++ (alt a b (S.m a b) ++ x))) = alt a b (S.m a b) then some (List.take p.length (p ++ (alt a b (S.m a b) ++ x)) ++ alt b a (S.m a b) ++ List.drop (p.length + S.m a b) (p ++ (alt a b (S.m a b) ++ x))) else none) = _
  rw [if_neg hab, if_neg hm]
  have d1 : List.drop p.length (p ++ (alt a b (S.m a b) ++ x)) = alt a b (S.m a b) ++ x := List.drop_left ..
  have t1 : List.take (S.m a b) (alt a b (S.m a b) ++ x) = alt a b (S.m a b) := by
    have := List.take_left (l₁ := alt a b (S.m a b)) (l₂ := x)
    rwa [alt_length] at this
  have t2 : List.take p.length (p ++ (alt a b (S.m a b) ++ x)) = p := List.take_left ..
  have d2 : List.drop (p.length + S.m a b) (p ++ (alt a b (S.m a b) ++ x)) = x := by
    rw [← List.drop_drop, d1]
    have := List.drop_left (l₁ := alt a b (S.m a b)) (l₂ := x)
    rwa [alt_length] at this
  rw [d1, t1, if_pos rfl, t2, d2, List.append_assoc]
/-- what turns do not leave holds all -/
theorem turned_all {S : Sys} {k : Nat} {r : Row} {K : List Nat → Prop} {u : List Nat} (hr : Reach S k r) (hu : IsW S r u) (h0 : K u) (hc : ∀ v, IsW S r v → K v → ∀ i x, i + 1 < v.length → mv S v i = some x → K x) : ∀ v, IsW S r v → K v := by
  intro v hv
  have key := matsumoto (S := S) (fun x y => ∀ p, IsW S r (p ++ x) → K (p ++ x) → (IsW S r (p ++ y) ∧ K (p ++ y))) (fun _ p h1 h2 => ⟨h1, h2⟩) (fun x y z h1 h2 p a b => by
      obtain ⟨q1, q2⟩ := h1 p a b
      exact h2 p q1 q2) (fun a x y _ h p h1 h2 => by
      have e : ∀ z : List Nat, p ++ a :: z = (p ++ [a]) ++ z := fun z => by rw [List.append_assoc]; rfl
      rw [e] at h1 h2 ⊢
      exact h _ h1 h2) (fun a b x ha hb hab hm p h1 h2 => by
      obtain ⟨l, hl, _⟩ := S.mge ha hb hab hm
      have e := mv_alt (S := S) hab hm (by omega) p x
      refine ⟨mv_isW hr h1 e, hc _ h1 h2 p.length _ ?_ e⟩
      rw [List.length_append, List.length_append, alt_length]
      omega) k r u v hr hu hv
  exact (key [] hu h0).2
end Bw
-- Bw4
set_option autoImplicit true
set_option maxRecDepth 512
set_option Elab.async false
set_option linter.all false
/-! Bw4: the rows below a row; how many. -/
namespace Bw
theorem Dn.append {S : Sys} : ∀ {u v : List Nat} {r : Row}, Dn S r u → Dn S (pr S.w u r) v → Dn S r (u ++ v)
  | [], _, _, _, h => h
  | _ :: _, _, _, ⟨h1, h2, h3⟩, h => ⟨h1, h2, Dn.append h3 h⟩
def Low (S : Sys) (r0 r : Row) : Prop := ∃ u, Dn S r0 u ∧ pr S.w u r0 = r
theorem Low.refl {S : Sys} (r : Row) : Low S r r := ⟨[], True.intro, rfl⟩
theorem Low.step {S : Sys} {r0 r : Row} {a : Nat} (h : Low S r0 r) (ha : a < S.n) (hn : r a < 0) : Low S r0 (press S.w a r) := by
  obtain ⟨u, h1, rfl⟩ := h
  exact ⟨u ++ [a], h1.append ⟨ha, hn, True.intro⟩, by rw [pr_append]; rfl⟩
def lows (S : Sys) : Nat → Row → List Row
  | 0, r => [r]
  | k + 1, r => r :: (bl S.n r).flatMap fun a => lows S k (press S.w a r)
theorem low_mem' {S : Sys} : ∀ (u : List Nat) {k : Nat} {r : Row}, Reach S k r → Dn S r u → pr S.w u r ∈ lows S k r
  | [], 0, r, _, _ => List.mem_cons_self
  | [], k + 1, r, _, _ => List.mem_cons_self
  | a :: u, 0, r, h, ⟨h1, h2, _⟩ => by obtain ⟨j, e, _⟩ := h.dn h1 h2; cases e
  | a :: u, k + 1, r, h, ⟨h1, h2, h3⟩ => by
    obtain ⟨j, e, hr⟩ := h.dn h1 h2
    have ej : j = k := by omega
    subst ej
    exact List.mem_cons_of_mem _ (List.mem_flatMap.mpr ⟨a, mem_bl.mpr ⟨h1, h2⟩, low_mem' u hr h3⟩)
theorem low_mem {S : Sys} {k : Nat} {r0 r : Row} (h : Reach S k r0) (hl : Low S r0 r) : r ∈ lows S k r0 := by
  obtain ⟨u, h1, rfl⟩ := hl
  exact low_mem' u h h1
def lb : Nat → Nat
  | 0 => 1
  | k + 1 => 1 + min 6 (k + 1) * lb k
theorem lows_len {S : Sys} (h6 : S.n ≤ 6) : ∀ {k : Nat} {r : Row}, Reach S k r → (lows S k r).length ≤ lb k
  | 0, r, _ => Nat.le_refl 1
  | k + 1, r, h => by
    show ((bl S.n r).flatMap fun a => lows S k (press S.w a r)).length + 1 ≤ 1 + min 6 (k + 1) * lb k
    have h1 : ((bl S.n r).flatMap fun a => lows S k (press S.w a r)).length ≤ (bl S.n r).length * lb k := flat_len fun a ha => by
      obtain ⟨h1, h2⟩ := mem_bl.mp ha
      obtain ⟨j, e, hr⟩ := h.dn h1 h2
      have ej : j = k := by omega
      subst ej
      exact lows_len h6 hr
    have h2 : (bl S.n r).length * lb k ≤ min 6 (k + 1) * lb k := Nat.mul_le_mul_right _ (by
      have := bl_len h
      have := bl_len_n S.n r
      omega)
    omega
theorem lb_mono : ∀ {j k : Nat}, j ≤ k → lb j ≤ lb k := by
  intro j k h
  induction h with
  | refl => exact Nat.le_refl _
  | @step m h ih =>
    refine Nat.le_trans ih ?_
    show lb m ≤ 1 + min 6 (m + 1) * lb m
    have : lb m ≤ min 6 (m + 1) * lb m := Nat.le_mul_of_pos_left _ (by omega)
    omega
theorem lb9 : lb 9 = 422755 := by decide
theorem nodup_lenA {α : Type} [DecidableEq α] : ∀ {l m : List α}, l.Nodup → (∀ a ∈ l, a ∈ m) → l.length ≤ m.length
  | [], _, _, _ => Nat.zero_le _
  | a :: l, m, h1, h2 => by
    rw [List.nodup_cons] at h1
    have hm := h2 a List.mem_cons_self
    have z : l.length ≤ (m.erase a).length := nodup_lenA h1.2 fun b hb => by
      have : b ≠ a := fun e => h1.1 (e ▸ hb)
      exact (List.mem_erase_of_ne this).mpr (h2 b (List.mem_cons_of_mem _ hb))
    rw [List.length_erase_of_mem hm] at z
    have : 0 < m.length := List.length_pos_of_mem hm
    simp only [List.length_cons]
    omega
/-- a row by its numbers -/
theorem row_ext {S : Sys} {j k : Nat} {r s : Row} (hr : Reach S j r) (hs : Reach S k s) (h : ∀ i, i < S.n → r i = s i) : r = s := by
  funext i
  by_cases hi : i < S.n
  · exact h i hi
  · rw [hr.out i (by omega), hs.out i (by omega)]
end Bw
-- WkL
set_option autoImplicit true
set_option maxRecDepth 512
set_option Elab.async false
set_option linter.all false
set_option maxRecDepth 100000
set_option maxHeartbeats 1000000
/-! WkL: Counter: its object, __init__. -/
namespace Bw
open PySem PySem.Spec PyProof.Rows L2 C8
/-- a class' facts -/
structure CF (K : PySem.W.Frag) (CC : Addr) : Prop where
  c : Cls K CC
  nb : NoAttr K CC "bonds"
  ng : NoAttr K CC "goal"
  nk : NoAttr K CC "known"
/-- a row as a key -/
def rk (n : Nat) (r : Row) : List L2.Key := (List.range n).map fun j => (Sum.inl (r j) : L2.Key)
theorem rk_kV (n : Nat) (r : Row) : (rk n r).map kV = rv n r := by
  unfold rk rv
  rw [List.map_map]
  rfl
theorem rk_inj {S : Sys} {j k : Nat} {r s : Row} (hr : Reach S j r) (hs : Reach S k s) (h : rk S.n r = rk S.n s) : r = s := by
  refine row_ext hr hs fun i hi => ?_
  have e : (rk S.n r)[i]? = (rk S.n s)[i]? := by rw [h]
  unfold rk at e
  rw [List.getElem?_map, List.getElem?_map, List.getElem?_range hi] at e
  exact Sum.inl.inj (Option.some.inj e)
/-- what was reckoned -/
def Kn (S : Sys) (r0 : Row) (kvs : List (List L2.Key × V)) : Prop := (kvs.map (·.1)).Nodup ∧ ∀ e ∈ kvs, ∃ k r, Reach S k r ∧ Low S r0 r ∧ e.1 = rk S.n r ∧ e.2 = V.int ((wl S k r).length : Nat)
theorem Kn.nil (S : Sys) (r0 : Row) : Kn S r0 [] := ⟨List.nodup_nil, fun e h => absurd h List.not_mem_nil⟩
theorem Kn.len {S : Sys} {k0 : Nat} {r0 : Row} {kvs : List (List L2.Key × V)} (h : Kn S r0 kvs) (hr : Reach S k0 r0) (h6 : S.n ≤ 6) : kvs.length ≤ lb k0 := by
  have := nodup_lenA (l := kvs.map (·.1)) (m := (lows S k0 r0).map (rk S.n)) h.1 fun a ha => by
    obtain ⟨e, he, rfl⟩ := List.mem_map.mp ha
    obtain ⟨k, r, h1, h2, h3, _⟩ := h.2 e he
    rw [h3]
    exact List.mem_map.mpr ⟨r, low_mem hr h2, rfl⟩
  rw [List.length_map, List.length_map] at this
  exact Nat.le_trans this (lows_len h6 hr)
theorem Kn.get {S : Sys} {k : Nat} {r0 r : Row} {kvs : List (List L2.Key × V)} {v : V} (h : Kn S r0 kvs) (hr : Reach S k r) (e : valV kvs (rk S.n r) = some v) : v = .int ((wl S k r).length : Nat) := by
  unfold valV at e
  cases q : kvs.find? (fun kv => decide (kv.1 = rk S.n r)) with
  | none => rw [q] at e; cases e
  | some p =>
    rw [q] at e
    have e2 : p.2 = v := Option.some.inj e
    have hm := List.mem_of_find?_eq_some q
    have hk := List.find?_some q
    have hk2 : p.1 = rk S.n r := of_decide_eq_true hk
    obtain ⟨j, s, h1, h2, h3, h4⟩ := h.2 p hm
    have es : s = r := rk_inj h1 hr (h3.symm.trans hk2)
    subst es
    have ej := Reach.uniq h1 hr
    subst ej
    rw [← e2, h4]
theorem Kn.put {S : Sys} {k : Nat} {r0 r : Row} {kvs : List (List L2.Key × V)} (h : Kn S r0 kvs) (hr : Reach S k r) (hl : Low S r0 r) : Kn S r0 (putK kvs (rk S.n r) (.int ((wl S k r).length : Nat))) := by
  unfold putK
  split
  · rename_i ha
    refine ⟨?_, fun e he => ?_⟩
    · rw [List.map_map]
      have : (kvs.map ((fun x => x.1) ∘ fun kv => if kv.1 = rk S.n r then (kv.1, V.int ((wl S k r).length : Nat)) else kv)) = kvs.map (·.1) := by
        refine List.map_congr_left fun p _ => ?_
        show (if p.1 = rk S.n r then (p.1, V.int ((wl S k r).length : Nat)) else p).1 = p.1
        split <;> rfl
      rw [this]
      exact h.1
    · obtain ⟨p, hp, rfl⟩ := List.mem_map.mp he
      by_cases hk : p.1 = rk S.n r
      · rw [if_pos hk]
        exact ⟨k, r, hr, hl, hk, rfl⟩
      · rw [if_neg hk]
        exact h.2 p hp
  · rename_i ha
    refine ⟨?_, fun e he => ?_⟩
    · rw [List.map_append, List.nodup_append]
      refine ⟨h.1, by simp, fun a h1 b h2 => ?_⟩
      have eb : b = rk S.n r := by simpa using h2
      subst eb
      intro ea
      subst ea
      obtain ⟨p, hp, e⟩ := List.mem_map.mp h1
      exact ha (List.any_eq_true.mpr ⟨p, hp, decide_eq_true e⟩)
    · rcases List.mem_append.mp he with z | z
      · exact h.2 e z
      · rw [List.mem_singleton.mp z]
        exact ⟨k, r, hr, hl, rfl, rfl⟩
/-- nothing but d has changed -/
def SameE (d : Addr) (H H' : Hp) : Prop := ∀ x o, x ≠ d → H x = some o → H' x = some o
theorem SameE.refl (d : Addr) (H : Hp) : SameE d H H := fun _ _ _ e => e
theorem SameE.trans {d : Addr} {H1 H2 H3 : Hp} (a : SameE d H1 H2) (b : SameE d H2 H3) : SameE d H1 H3 := fun x o n e => b x o n (a x o n e)
theorem Same.toE {d : Addr} {H H' : Hp} (s : Same H H') : SameE d H H' := fun x o _ e => s x o e
theorem SameE.tup {K : PySem.W.Frag} {d a : Addr} {H H' : Hp} {kvs : List (List L2.Key × V)} {xs : List V} (s : SameE d H H') (e : H d = some (.dT kvs)) (h : SqT K H a xs) : SqT K H' a xs := by
  rcases h with (h | ⟨o, h⟩) | h
  · exact .inl (.inl (s _ _ (fun z => by rw [z, e] at h; cases h) h))
  · exact .inl (.inr ⟨o, s _ _ (fun z => by rw [z, e] at h; cases h) h⟩)
  · exact .inr h
theorem SameE.seq {K : PySem.W.Frag} {d a : Addr} {H H' : Hp} {kvs : List (List L2.Key × V)} {xs : List V} (s : SameE d H H') (e : H d = some (.dT kvs)) (h : SqL K H a xs) : SqL K H' a xs := by
  rcases h with (h | ⟨o, h⟩) | h
  · exact .inl (.inl (s _ _ (fun z => by rw [z, e] at h; cases h) h))
  · exact .inl (.inr ⟨o, s _ _ (fun z => by rw [z, e] at h; cases h) h⟩)
  · exact .inr h
theorem SameE.bo {K : PySem.W.Frag} {C d b : Addr} {H H' : Hp} {S : Sys} {kvs : List (List L2.Key × V)} (s : SameE d H H') (e : H d = some (.dT kvs)) (h : Bo K C H b S) : Bo K C H' b S := by
  obtain ⟨dx, t, as, h1, h2, h3, h4⟩ := h
  refine ⟨dx, t, as, ?_, h2, s.tup e h3, fun i c q => s.tup e (h4 i c q)⟩
  rcases h1 with ⟨h1, h5⟩ | ⟨h1, h5⟩
  · exact .inl ⟨s _ _ (fun z => by rw [z, e] at h1; cases h1) h1, h5⟩
  · exact .inr ⟨s _ _ (fun z => by rw [z, e] at h1; cases h1) h1, s _ _ (fun z => by rw [z, e] at h5; cases h5) h5⟩
def cof (b g d : Addr) : List (Str × V) := [("bonds", .ref b), ("goal", .ref g), ("known", .ref d)]
/-- a Counter -/
def Co (K : PySem.W.Frag) (C CC : Addr) (H : Hp) (c b g d : Addr) (S : Sys) (r0 : Row) : Prop := ∃ dx kvs, H c = some (.ins CC dx (cof b g d)) ∧ Bo K C H b S ∧ H g = some (.tup (rv S.n rho)) ∧ H d = some (.dT kvs) ∧ Kn S r0 kvs
theorem Co.same {K : PySem.W.Frag} {C CC : Addr} {H H' : Hp} {c b g d : Addr} {S : Sys} {r0 : Row} (h : Co K C CC H c b g d S r0) (s : Same H H') : Co K C CC H' c b g d S r0 := by
  obtain ⟨dx, kvs, h1, h2, h3, h4, h5⟩ := h
  exact ⟨dx, kvs, s _ _ h1, h2.same s, s _ _ h3, s _ _ h4, h5⟩
section
variable {P : Program} {w : World} {K : PySem.W.Frag} {mg : Str → Option Value} {base : Heap} {C CC : Addr}
theorem met_of {m qual : Str} {st : Stmt} {N ps : List Str} {k : Nat} {sp : Sp} (c : Cls K CC) (G : MD K CC m qual st) (S : FnScope N ps (defScope st))
    (b : ∀ (kV doc pm : Value) (an : Option Addr) (cdv ct : Value) (us : List Value), us.length = ps.length → bindArgs (PySem.W.fnOf m qual (defArgs st) (defBody st) (defScope st) .none kV doc pm an cdv ct) ⟨us, []⟩ = pure (ps.zip us))
    (len : ∀ vs H Q E, sp vs H Q E → vs.length = ps.length)
    (hbody : ∀ (f : Addr) (cdv : Value) (A : Around) (outer : List Env) (s : Shared) (H : Hp) (vs : List V) (Q : VK) (E : XK), Room k (A.deeper (envOfC qual (defScope st) s.heap.objs.size f cdv)) → sp vs H Q E →
      ∃ t, PSs (cxOf C8.CX0 P w K mg base N qual (defScope st) f cdv A outer s H E).nox (defBody st) t ∧ t { nx := fun _ H' => Q .non H', rt := Q } (start N vs) H) : C8.Met P w K mg base (k + 1) CC m sp [] := by
  obtain ⟨f, fd, F, hm⟩ := G.ex
  refine ⟨f, fd, ps, [], c, hm, F.ok S len (fun cdv A outer s H vs Q E hr hs => ?_), F.bindsN b, .nil⟩
  obtain ⟨t, h, q⟩ := hbody f cdv A outer s H vs Q E hr hs
  exact ⟨t, h.nox, q⟩
def spCinit (K : PySem.W.Frag) (C CC : Addr) : Sp := fun vs H Q _ => ∃ (x dx b : Addr) (S : Sys), vs = [.ref x, .ref b] ∧ dx ≠ x ∧ H x = some (.ins CC dx []) ∧ Bo K C H b S ∧ 1 ≤ S.n ∧ S.n ≤ 6 ∧
  ∀ H' g d, H d = none → (∀ a o, H a = some o → a ≠ x → H' a = some o) → (∀ r0, Co K C CC H' x b g d S r0) → Q .non H'
theorem bo_upd_ins {K : PySem.W.Frag} {C CC b x dx : Addr} {H H' : Hp} {S : Sys} (h : Bo K C H b S) (hx : H x = some (.ins CC dx [])) (hC : ∀ dx vs, SlX.Slt H b C dx vs → b ≠ x) (s : ∀ a o, H a = some o → a ≠ x → H' a = some o) : Bo K C H' b S := by
  obtain ⟨ex, t, as, h1, h2, h3, h4⟩ := h
  have tp : ∀ {a : Addr} {xs : List V}, SqT K H a xs → SqT K H' a xs := fun {a xs} h => by
    rcases h with (h | ⟨o, h⟩) | h
    · exact .inl (.inl (s _ _ h (fun z => by rw [z, hx] at h; cases h)))
    · exact .inl (.inr ⟨o, s _ _ h (fun z => by rw [z, hx] at h; cases h)⟩)
    · exact .inr h
  refine ⟨ex, t, as, ?_, h2, tp h3, fun i c q => tp (h4 i c q)⟩
  have hb := hC _ _ h1
  rcases h1 with ⟨h1, h5⟩ | ⟨h1, h5⟩
  · exact .inl ⟨s _ _ h1 hb, h5⟩
  · exact .inr ⟨s _ _ h1 hb, s _ _ h5 (fun z => by rw [z, hx] at h5; cases h5)⟩
theorem ok_Cinit (F : CF K CC) (hCC : C ≠ CC) (G : ID K mg "Counter" CC "Counter.__init__" s_Counter_init) (c1 : Cal P w K mg base 3 "start" (spStart K C) []) : Mak P w K mg base 4 "Counter" CC (spCinit K C CC) [] := by
  refine mak_of (N := ["self", "bonds"]) (ps := ["self", "bonds"]) G ⟨rfl, rfl, rfl, by decide +kernel, rfl, by decide +kernel, by decide +kernel⟩ (fun _ _ _ _ _ _ us hl => match us, hl with | [_, _], _ => rfl) (fun vs H Q E h => ?_) (fun f cdv A outer s H vs Q E hr h => ?_)
  · obtain ⟨a, _, _, _, rfl, _⟩ := h
    rfl
  · obtain ⟨x, dx, b, S, rfl, ndx, hx, hB, h1, h6, q⟩ := h
    have nd : (["self", "bonds"] : List Str).Nodup := by decide +kernel
    refine ⟨_, pss_cons (ps_fld (pv 0) (pv 1) rfl) (pss_cons (ps_fld (pv 0) (pe_c c1 hr (by decide) (by rfl) (pa_cons (pv 1) pa_nil)) rfl) (pss_one (ps_fld (pv 0) pe_dnewT rfl))), ?_⟩
    have bx : ∀ dx vs, SlX.Slt H b C dx vs → b ≠ x := fun dx vs h z => by
      subst z
      rcases h with ⟨h, _⟩ | ⟨h, _⟩ <;> rw [hx] at h <;> cases h <;> exact hCC rfl
    refine ⟨.ref b, rfl, .ref x, rfl, x, CC, dx, [], rfl, hx, F.c, F.nb, by decide, ?_⟩
    have s1 : ∀ a o, H a = some o → a ≠ x → (upd H x (.ins CC dx (putF "bonds" (.ref b) []))) a = some o := fun a o e n => by rw [upd_ne n]; exact e
    have hB1 := bo_upd_ins hB hx bx s1
    refine ⟨.ref b, rfl, b, S, rfl, hB1, h1, h6, fun g H2 s2 hg => ?_⟩
    have hx2 : H2 x = some (.ins CC dx (putF "bonds" (.ref b) [])) := s2 _ _ upd_same
    refine ⟨.ref x, rfl, x, CC, dx, _, rfl, hx2, F.c, F.ng, (by show (1 : Nat) < 1000; decide), ?_⟩
    refine fun d hd => ⟨.ref x, rfl, x, CC, dx, putF "goal" (.ref g) (putF "bonds" (.ref b) []), rfl, ?_, F.c, F.nk, (by show (2 : Nat) < 1000; decide), ?_⟩
    · rw [upd_ne (fun z => by rw [← z, upd_same] at hd; cases hd), upd_same]
    · have dx' : d ≠ x := fun z => by rw [z, upd_same] at hd; cases hd
      have hd2 : H2 d = none := by rwa [upd_ne dx'] at hd
      have gx : g ≠ x := fun z => by rw [z, hx2] at hg; cases hg
      have gd : g ≠ d := fun z => by rw [z, hd2] at hg; cases hg
      have keep : ∀ a o, H a = some o → a ≠ x → (upd (upd (upd H2 x (.ins CC dx (putF "goal" (.ref g) (putF "bonds" (.ref b) [])))) d (.dT [])) x (.ins CC dx (putF "known" (.ref d) (putF "goal" (.ref g) (putF "bonds" (.ref b) []))))) a = some o := fun a o e n => by
        have e2 := s2 _ _ (s1 a o e n)
        rw [upd_ne n, upd_ne (fun z => by rw [z, hd2] at e2; cases e2), upd_ne n]
        exact e2
      have hd0 : H d = none := by
        cases e : H d with
        | none => rfl
        | some o => rw [s2 _ _ (s1 d o e dx')] at hd2; cases hd2
      refine q _ g d hd0 keep fun r0 => ⟨dx, [], ?_, bo_upd_ins hB hx bx keep, ?_, ?_, Kn.nil S r0⟩
      · rw [upd_same]
        rfl
      · rw [upd_ne gx, upd_ne gd, upd_ne gx]
        exact hg
      · rw [upd_ne dx', upd_same]
end
end Bw
-- WkM
set_option autoImplicit true
set_option maxRecDepth 512
set_option Elab.async false
set_option linter.all false
set_option maxRecDepth 100000
set_option maxHeartbeats 1000000
/-! WkM: Counter.ways. -/
namespace Bw
open PySem PySem.Spec PyProof.Rows L2 C8
theorem row_ne {S : Sys} {k : Nat} {r : Row} (h : Reach S (k + 1) r) : ¬ (List.range S.n).map r = (List.range S.n).map rho := fun e => by
  obtain ⟨a, ha, hn, _⟩ := h.neg
  have e2 : ((List.range S.n).map r)[a]? = ((List.range S.n).map rho)[a]? := by rw [e]
  rw [List.getElem?_map, List.getElem?_map, List.getElem?_range ha] at e2
  have : r a = 1 := Option.some.inj e2
  omega
theorem sum_lens (S : Sys) (k : Nat) (r : Row) (l : List Nat) : (l.map fun a => (((wl S k (press S.w a r)).length : Nat) : Int)).sum = ((fl S k r l).length : Nat) := by
  induction l with
  | nil => rfl
  | cons a l ih =>
    rw [List.map_cons, List.sum_cons, ih, fl_cons, List.length_append, List.length_map]
    omega
theorem pe_fldK (K : PySem.W.Frag) {X : Cx} {e : Expr} {f : Str} {pos : Pos} {ta : TE} (he : PE X e ta) (hK : X.K = K := by rfl) (hb : attributeBase e f X.env (eval e X.env) = eval e X.env := by rfl) : PE X (.Attribute e f pos) (tFld K ta f) := by
  subst hK
  exact pe_fld he hb
section
variable {P : Program} {w : World} {K : PySem.W.Frag} {mg : Str → Option Value} {base : Heap} {C CC : Addr}
def spWays (K : PySem.W.Frag) (C CC : Addr) (k : Nat) : Sp := fun vs H Q _ => ∃ (c p b g d : Addr) (S : Sys) (r0 : Row) (k0 : Nat) (r : Row), vs = [.ref c, .ref p] ∧ Co K C CC H c b g d S r0 ∧ Wt S ∧ 1 ≤ S.n ∧ S.n ≤ 6 ∧ Reach S k0 r0 ∧ k0 ≤ 9 ∧
  H p = some (.tup (rv S.n r)) ∧ Reach S k r ∧ Low S r0 r ∧ ∀ H', SameE d H H' → Co K C CC H' c b g d S r0 → Q (.int ((wl S k r).length : Nat)) H'
theorem fnk_of {m qual : Str} {st : Stmt} {N ps : List Str} {k : Nat} {sp : Sp} {f : Addr} {fd : FuncData} (F : FunD K m qual (defArgs st) (defBody st) (defScope st) [] [] f fd) (S : FnScope N ps (defScope st))
    (len : ∀ vs H Q E, sp vs H Q E → vs.length = ps.length)
    (hbody : ∀ (f : Addr) (cdv : Value) (A : Around) (outer : List Env) (s : Shared) (H : Hp) (vs : List V) (Q : VK) (E : XK), Room k (A.deeper (envOfC qual (defScope st) s.heap.objs.size f cdv)) → sp vs H Q E →
      ∃ t, PSs (cxOf C8.CX0 P w K mg base N qual (defScope st) f cdv A outer s H E).nox (defBody st) t ∧ t { nx := fun _ H' => Q .non H', rt := Q } (start N vs) H) : FnOk P w K mg base C8.CX0 (k + 1) f fd ps sp := by
  refine F.ok S len (fun cdv A outer s H vs Q E hr hs => ?_)
  obtain ⟨t, h, q⟩ := hbody f cdv A outer s H vs Q E hr hs
  exact ⟨t, h.nox, q⟩
/-- at any row, from at most nine letters -/
def spWaysU (K : PySem.W.Frag) (C CC : Addr) : Sp := fun vs H Q E => ∃ k, k ≤ 9 ∧ spWays K C CC k vs H Q E
end
end Bw
-- WkN
set_option autoImplicit true
set_option maxRecDepth 512
set_option Elab.async false
set_option linter.all false
set_option maxRecDepth 100000
set_option maxHeartbeats 1000000
/-! WkN: other_row, count_shortest. -/
namespace Bw
open PySem PySem.Spec PyProof.Rows L2 C8
theorem wv_rev (u : List Nat) : (wv u).reverse = wv u.reverse := by unfold wv; rw [List.map_reverse]
section
variable {P : Program} {w : World} {K : PySem.W.Frag} {mg : Str → Option Value} {base : Heap} {C CC : Addr}
def spOther (K : PySem.W.Frag) (C : Addr) : Sp := fun vs H Q _ => ∃ (b a : Addr) (S : Sys) (u : List Nat), vs = [.ref b, .ref a] ∧ Bo K C H b S ∧ Wt S ∧ 1 ≤ S.n ∧ S.n ≤ 6 ∧ SqA K H a (wv u) ∧ (∀ l ∈ u, l < S.n) ∧ ∀ p' H', Same H H' → H' p' = some (.tup (rv S.n (pr S.w u.reverse rho))) → Q (.ref p') H'
theorem ok_other (G : GD K mg "other_row" s_other_row) (c1 : Cal P w K mg base 6 "row_by" (spRowBy K C) []) (m1 : mg "tuple" = none) : Cal P w K mg base 7 "other_row" (spOther K C) [] := by
  refine cal_of (N := ["bonds", "word"]) (ps := ["bonds", "word"]) G ⟨rfl, rfl, rfl, by decide +kernel, rfl, by decide +kernel, by decide +kernel⟩ (fun _ _ _ _ _ _ us hl => match us, hl with | [_, _], _ => rfl) (fun vs H Q E h => ?_) (fun f cdv A outer s H vs Q E hr h => ?_)
  · obtain ⟨a, _, _, _, rfl, _⟩ := h
    rfl
  · obtain ⟨b, a, S, u, rfl, hB, hW, h1, hn, hA, hlt, q⟩ := h
    refine ⟨_, pss_one (ps_ret (pe_c c1 hr (by decide) (by rfl) (pa_cons (pv 0) (pa_cons (pe_revT (pe_callTy call_tupOf (by rfl) m1 boot_tuple (pa_cons (pv 1) pa_nil))) pa_nil)))), ?_⟩
    refine ⟨.ref b, rfl, .ref a, rfl, a, wv u, rfl, ?_⟩
    have rest : ∀ (t : Addr) (H1 : Hp), Same H H1 → SqT K H1 t (wv u) → (∃ a xs, V.ref t = .ref a ∧ SqT K H1 a xs ∧ ∀ p, H1 p = none → (fun v H2 => tNil (start ["bonds", "word"] [.ref b, .ref a]) H2 (fun vs H3 => spRowBy K C (.ref b :: v :: vs ++ []) H3 Q E)) (V.ref p) (upd H1 p (.tup xs.reverse))) := fun t H1 s1 ht => by
      refine ⟨t, wv u, rfl, ht, fun p np => ?_⟩
      have s2 := s1.trans (same_upd (o := .tup (wv u).reverse) np)
      exact ⟨b, p, S, u.reverse, rfl, hB.same s2, hW, h1, hn, .inr (.inl (.inl (by rw [upd_same, wv_rev]))), fun l hl => hlt l (List.mem_reverse.mp hl), fun p' H' s3 hp' => q p' H' (s2.trans s3) hp'⟩
    rcases hA with h | h
    · exact .inl ⟨h, fun l nl => rest l _ (same_upd nl) (.inl (.inl upd_same))⟩
    · exact .inr ⟨h, rest a H (fun _ _ e => e) h⟩
def spCount (K : PySem.W.Frag) (C : Addr) : Sp := fun vs H Q _ => ∃ (b a : Addr) (S : Sys) (u : List Nat) (k : Nat), vs = [.ref b, .ref a] ∧ Bo K C H b S ∧ Wt S ∧ 1 ≤ S.n ∧ S.n ≤ 6 ∧ SqA K H a (wv u) ∧ (∀ l ∈ u, l < S.n) ∧ u.length ≤ 9 ∧ Reach S k (pr S.w u.reverse rho) ∧
  ∀ H', Same H H' → Q (.int ((wl S k (pr S.w u.reverse rho)).length : Nat)) H'
end
end Bw
-- WkO
set_option autoImplicit true
set_option maxRecDepth 512
set_option Elab.async false
set_option linter.all false
set_option maxRecDepth 100000
set_option maxHeartbeats 1000000
/-! WkO: generator methods; Counter.words. -/
namespace Bw
open PySem PySem.Spec PyProof.Rows L2 C8 Ra
/-- a generator method -/
structure GMet (P : Program) (w : World) (Φ : Outcome → Shared → Prop) (K : PySem.W.Frag) (mg : Str → Option Value) (base : Heap) (k : Nat) (CC : Addr) (m : Str) (sp : SpY) : Prop where
  ex : ∃ (f : Addr) (fd : FuncData) (ps : List Str), Cls K CC ∧ Meth K CC m f ∧ GDef P w Φ K mg base k f fd ps sp ∧ Binds K fd ps []
/-- a generator def -/
structure GCal (P : Program) (w : World) (Φ : Outcome → Shared → Prop) (K : PySem.W.Frag) (mg : Str → Option Value) (base : Heap) (k : Nat) (x : Str) (sp : SpY) : Prop where
  ex : ∃ (f : Addr) (fd : FuncData) (ps : List Str), mg x = some (.ref f) ∧ PySem.W.keepIn K (.ref f) = true ∧ GDef P w Φ K mg base k f fd ps sp ∧ Binds K fd ps []
section
variable {P : Program} {w : World} {Φ : Outcome → Shared → Prop} {K : PySem.W.Frag} {mg : Str → Option Value} {base : Heap} {C CC : Addr}
theorem gmet_of {m qual : Str} {st : Stmt} {N ps : List Str} {k : Nat} {sp : SpY} (c : Cls K CC) (G : MD K CC m qual st) (S : GScope N ps (defScope st))
    (b : ∀ (kV doc pm : Value) (an : Option Addr) (cdv ct : Value) (us : List Value), us.length = ps.length → bindArgs (PySem.W.fnOf m qual (defArgs st) (defBody st) (defScope st) .none kV doc pm an cdv ct) ⟨us, []⟩ = pure (ps.zip us))
    (len : ∀ vs H M Dy Q, sp vs H M Dy Q → vs.length = ps.length)
    (hbody : ∀ (f : Addr) (cdv : Value) (A : Around) (outer : List Env) (s : Shared) (H : Hp) (vs : List V) (M : Nat) (Dy Q : List V → Hp → Prop) (Ls : List Addr), Room k (A.deeper (envOfC qual (defScope st) s.heap.objs.size f cdv)) → sp vs H M Dy Q →
      ∃ t, RSs (gctx P w K mg base N qual (defScope st) f cdv A outer s H Ls) (GBed (gctx P w K mg base N qual (defScope st) f cdv A outer s H Ls) Φ M Dy) (defBody st) t ∧ t { nx := fun ys _ H' => Q ys H', rt := fun ys v H' => v = .non ∧ Q ys H' } [] (start N vs) H) :
    GMet P w Φ K mg base (k + 1) CC m sp := by
  obtain ⟨f, fd, F, hm⟩ := G.ex
  have hb := F.bindsN b
  obtain ⟨oc, od, dV, kV, doc, pm, an, cdv, ct, osl, rfl, lk, hcd, hD, hK⟩ := F.ex
  exact ⟨f, _, ps, c, hm, gdef_of lk hcd S len fun A outer s H vs M Dy Q Ls hr h => hbody f cdv A outer s H vs M Dy Q Ls hr h, hb⟩
theorem gcal_of {x : Str} {st : Stmt} {N ps : List Str} {k : Nat} {sp : SpY} (G : GD K mg x st) (S : GScope N ps (defScope st))
    (b : ∀ (kV doc pm : Value) (an : Option Addr) (cdv ct : Value) (us : List Value), us.length = ps.length → bindArgs (PySem.W.fnOf x x (defArgs st) (defBody st) (defScope st) .none kV doc pm an cdv ct) ⟨us, []⟩ = pure (ps.zip us))
    (len : ∀ vs H M Dy Q, sp vs H M Dy Q → vs.length = ps.length)
    (hbody : ∀ (f : Addr) (cdv : Value) (A : Around) (outer : List Env) (s : Shared) (H : Hp) (vs : List V) (M : Nat) (Dy Q : List V → Hp → Prop) (Ls : List Addr), Room k (A.deeper (envOfC x (defScope st) s.heap.objs.size f cdv)) → sp vs H M Dy Q →
      ∃ t, RSs (gctx P w K mg base N x (defScope st) f cdv A outer s H Ls) (GBed (gctx P w K mg base N x (defScope st) f cdv A outer s H Ls) Φ M Dy) (defBody st) t ∧ t { nx := fun ys _ H' => Q ys H', rt := fun ys v H' => v = .non ∧ Q ys H' } [] (start N vs) H) :
    GCal P w Φ K mg base (k + 1) x sp := by
  obtain ⟨f, fd, F, hm⟩ := G.ex
  have hb := F.bindsN b
  have kp := F.kp
  obtain ⟨oc, od, dV, kV, doc, pm, an, cdv, ct, osl, rfl, lk, hcd, hD, hK⟩ := F.ex
  exact ⟨f, _, ps, hm, kp, gdef_of lk hcd S len fun A outer s H vs M Dy Q Ls hr h => hbody f cdv A outer s H vs M Dy Q Ls hr h, hb⟩
end
section
variable {X : Cx} {Φ : Outcome → Shared → Prop} {k j : Nat} {C : Addr} {x m : Str} {sp : SpY} {p pos apos : Pos} {o e : Expr} {es : List Expr} {ta : TE} {t : TA}
theorem pmk_mt {pl : Sem Bool} (c : GMet X.prog X.w Φ X.K X.mg X.base k C m sp) (hr : Room k X.A) (ho : PE X o ta) (ha : PA X (e :: es) t)
    (hst : starEach (e :: es) X.env = (false, eval e X.env) :: starEach es X.env := by rfl) (hpl : (backTo pos (starEach es X.env)).any (·.1) = false := by rfl)
    (ht : eval (.Call (.Attribute o m apos) (e :: es) [] pos) X.env = (do
      let ov ← eval o X.env
      standAt apos.atName
      let (f, first) ← holding [ov] (getMethod ov m pl)
      callWith pos f first (backTo pos (starEach (e :: es) X.env)) (backToKw pos (keywordEach [] X.env))) := by rfl) :
    PMk X Φ k (.Call (.Attribute o m apos) (e :: es) [] pos) (fun σ H M Dy Q => ta σ H fun x H1 => ∃ a dx fs, x = .ref a ∧ H1 a = some (.ins C dx fs) ∧ fs.lookup m = none ∧ t σ H1 fun vs H2 => sp (x :: (vs ++ [])) H2 M Dy Q) := by
  obtain ⟨f, fd, ps, hc, hm, F, b⟩ := c.ex
  exact pmk_meth (pl := pl) (dvs := []) ho hc hm F hr b .nil ha hst hpl ht
theorem pmk_c (c : GCal X.prog X.w Φ X.K X.mg X.base k x sp) (hr : Room k X.A) (hg : Gl X x) (ha : PA X (e :: es) t) (hdb : (x == ("__debug__" : Str)) = false := by decide) (he : starEach (e :: es) X.env = (false, eval e X.env) :: starEach es X.env := by rfl) (hpl : (backTo pos (starEach es X.env)).any (·.1) = false := by rfl) :
    PMk X Φ k (.Call (.Name x p) (e :: es) [] pos) (fun σ H M Dy Q => t σ H fun vs H1 => sp (vs ++ []) H1 M Dy Q) := by
  obtain ⟨f, fd, ps, hm, kp, F, b⟩ := c.ex
  exact pmk_call (dvs := []) F hr hg hm kp b .nil ha hdb he hpl
/-- a for over a tuple in a generator -/
theorem gfor_tup {K : PySem.W.Frag} {a : Addr} {xs : List V} {g : TG} {tb : TGn} {D : GEnds} {ys : List V} {σ : L2.St} {H : Hp} (Pv : Nat → List V → L2.St → Hp → Prop) (h0 : Pv 0 ys σ H) (hl : ∀ i ys σ H, i ≤ xs.length → Pv i ys σ H → SqT K H a xs)
    (hs : ∀ i x ys σ H, xs[i]? = some x → Pv i ys σ H → g x σ H fun σ2 H2 => tb { D with nx := Pv (i + 1), ct := Pv (i + 1), bk := D.nx } ys σ2 H2) (hd : ∀ ys σ H, Pv xs.length ys σ H → D.nx ys σ H) :
    ∃ W : Nat → Nat → List V → L2.St → Hp → Prop, (∃ m, W 0 m ys σ H) ∧ ∀ i m ys σ H, W i m ys σ H →
      ((Itt K a).stop i H ∧ D.nx ys σ H) ∨ ((Itt K a).go i H ∧ ∃ N : List V → L2.St → Hp → Prop, (∀ ys' σ' H', N ys' σ' H' → ∃ m', m' < m ∧ W (i + 1) m' ys' σ' H') ∧ ∀ x H', (Itt K a).yld i H x H' → g x σ H' fun σ2 H2 => tb { D with nx := N, ct := N, bk := D.nx } ys σ2 H2) := by
  refine ⟨fun i m ys σ H => m = xs.length - i ∧ i ≤ xs.length ∧ Pv i ys σ H, ⟨xs.length, by simp, Nat.zero_le _, h0⟩, ?_⟩
  rintro i m ys σ H ⟨rfl, hi, p⟩
  have q := hl i ys σ H hi p
  by_cases hlt : i < xs.length
  · refine .inr ⟨⟨xs, xs[i], q, by simp [hlt]⟩, Pv (i + 1), fun ys' σ' H' p' => ⟨xs.length - (i + 1), by omega, rfl, hlt, p'⟩, fun x H' y => ?_⟩
    obtain ⟨e, y⟩ := y
    subst e
    exact hs i x ys σ _ (y xs q) p
  · have e : i = xs.length := by omega
    subst e
    exact .inl ⟨⟨xs, q, Nat.le_refl _⟩, hd ys σ H p⟩
end
/-- words that are out -/
def Out (K : PySem.W.Frag) (H : Hp) (us : List (List Nat)) (ys : List V) : Prop := ∃ as : List Addr, ys = as.map V.ref ∧ as.length = us.length ∧ ∀ (i : Nat) (a : Addr) (u : List Nat), as[i]? = some a → us[i]? = some u → SqT K H a (wv u)
theorem Out.nil {K : PySem.W.Frag} {H : Hp} : Out K H [] [] := ⟨[], rfl, rfl, fun i a u h => by cases h⟩
theorem Out.same {K : PySem.W.Frag} {H H' : Hp} {us : List (List Nat)} {ys : List V} (h : Out K H us ys) (s : Same H H') : Out K H' us ys := by
  obtain ⟨as, e, l, h⟩ := h
  exact ⟨as, e, l, fun i a u h1 h2 => Same.tup s (h i a u h1 h2)⟩
theorem Out.append {K : PySem.W.Frag} {H : Hp} {us vs : List (List Nat)} {ys zs : List V} (h1 : Out K H us ys) (h2 : Out K H vs zs) : Out K H (us ++ vs) (ys ++ zs) := by
  obtain ⟨as, e1, l1, h1⟩ := h1
  obtain ⟨bs, e2, l2, h2⟩ := h2
  refine ⟨as ++ bs, by rw [e1, e2, List.map_append], by rw [List.length_append, List.length_append, l1, l2], fun i a u q1 q2 => ?_⟩
  by_cases hi : i < as.length
  · rw [List.getElem?_append_left hi] at q1
    rw [List.getElem?_append_left (by omega)] at q2
    exact h1 i a u q1 q2
  · rw [List.getElem?_append_right (by omega)] at q1
    rw [List.getElem?_append_right (by omega)] at q2
    rw [l1] at q1
    exact h2 _ a u q1 q2
theorem Out.one {K : PySem.W.Frag} {H : Hp} {u : List Nat} {a : Addr} (h : SqT K H a (wv u)) : Out K H [u] [.ref a] := by
  refine ⟨[a], rfl, rfl, fun i b v h1 h2 => ?_⟩
  cases i with
  | zero =>
    cases h1
    cases h2
    exact h
  | succ i => cases h1
theorem Out.len {K : PySem.W.Frag} {H : Hp} {us : List (List Nat)} {ys : List V} (h : Out K H us ys) : ys.length = us.length := by
  obtain ⟨as, e, l, _⟩ := h
  rw [e, List.length_map, l]
end Bw
-- WkP
set_option autoImplicit true
set_option maxRecDepth 512
set_option Elab.async false
set_option linter.all false
set_option maxRecDepth 100000
set_option maxHeartbeats 1000000
/-! WkP: Counter.words. -/
namespace Bw
open PySem PySem.Spec PyProof.Rows L2 C8 Ra
section
variable {P : Program} {w : World} {Φ : Outcome → Shared → Prop} {K : PySem.W.Frag} {mg : Str → Option Value} {base : Heap} {C CC : Addr}
def spWords (K : PySem.W.Frag) (C CC : Addr) (k : Nat) : SpY := fun vs H M Dy Q => ∃ (c p t b g d : Addr) (S : Sys) (r0 r : Row) (pre : List Nat), vs = [.ref c, .ref p, .ref t] ∧ Co K C CC H c b g d S r0 ∧ Wt S ∧ 1 ≤ S.n ∧ S.n ≤ 6 ∧
  SqT K H p (rv S.n r) ∧ Reach S k r ∧ SqT K H t (wv pre) ∧ pre.length + k ≤ 100 ∧ (wl S k r).length ≤ M ∧
  (∀ i ys H', i ≤ (wl S k r).length → Same H H' → Out K H' (((wl S k r).take i).map (pre ++ ·)) ys → Dy ys H') ∧ (∀ ys H', Same H H' → Out K H' ((wl S k r).map (pre ++ ·)) ys → Q ys H')
theorem ok_words (F : CF K CC) (G : MD K CC "words" "Counter.words" s_Counter_words) (c1 : Cal P w K mg base 1 "below" (spBelow K) []) (c2 : Cal P w K mg base 5 "pressed" (spPressed K C) []) :
    ∀ k, GMet P w Φ K mg base (8 + 3 * k) CC "words" (spWords K C CC k) := by
  have nd : (["self", "row", "ahead", "letter"] : List Str).Nodup := by decide +kernel
  intro k
  induction k with
  | zero =>
    refine gmet_of (k := 7) (N := ["self", "row", "ahead", "letter"]) (ps := ["self", "row", "ahead"]) F.c G ⟨rfl, rfl, rfl, by decide +kernel, rfl, by decide +kernel, by decide +kernel⟩ (fun _ _ _ _ _ _ us hl => match us, hl with | [_, _, _], _ => rfl) (fun vs H M Dy Q h => ?_) (fun f cdv A outer s H vs M Dy Q Ls hr h => ?_)
    · obtain ⟨_, _, _, _, _, _, _, _, _, _, rfl, _⟩ := h
      rfl
    · obtain ⟨c, p, t, b, g, d, S, r0, r, pre, rfl, hC, hW, h1, h6, hp, hr0, ht, hl, hM, hDy, hQ⟩ := h
      refine ⟨_, rss_cons (rs_if (pt_cmpR (op_eqD hr.units) (pv 1) (pe_fld (pv 0) rfl) (nomark _)) (rss_cons (rs_yield (pv 2)) (rss_one (rs_ps ps_retN))) rss_nil) (rss_one (rs_ps ps_never)), ?_⟩
      obtain ⟨dx, kvs, hc, hB, hg, hd, hK⟩ := id hC
      have er := Reach.zero_iff.mp hr0
      subst er
      refine ⟨.ref p, rfl, .ref c, rfl, c, CC, dx, _, .ref g, rfl, hc, F.c, F.ng, rfl, ?_⟩
      refine ⟨_, _, dp_tup (ns := (List.range S.n).map rho) (by rw [← rv_ints]; exact hp), dp_tup (ns := (List.range S.n).map rho) (by rw [← rv_ints]; exact SqT.of hg), shaped_ints _, shaped_ints _, _, rfl, ?_⟩
      rw [eqv_ints, decide_eq_true rfl]
      have hout : Out K H ((wl S 0 rho).map (pre ++ ·)) [.ref t] := by
        show Out K H [pre ++ []] [.ref t]
        rw [List.append_nil]
        exact Out.one ht
      refine ⟨hM, .ref t, rfl, hDy 1 [.ref t] H (Nat.le_refl _) (fun _ _ e => e) hout, ?_⟩
      exact ⟨rfl, hQ [.ref t] H (fun _ _ e => e) hout⟩
  | succ k ih =>
    refine gmet_of (k := 8 + 3 * k + 2) (N := ["self", "row", "ahead", "letter"]) (ps := ["self", "row", "ahead"]) F.c G ⟨rfl, rfl, rfl, by decide +kernel, rfl, by decide +kernel, by decide +kernel⟩ (fun _ _ _ _ _ _ us hl => match us, hl with | [_, _, _], _ => rfl) (fun vs H M Dy Q h => ?_) (fun f cdv A outer s H vs M Dy Q Ls hr h => ?_)
    · obtain ⟨_, _, _, _, _, _, _, _, _, _, rfl, _⟩ := h
      rfl
    · obtain ⟨c, p, t, b, g, d, S, r0, r, pre, rfl, hC, hW, h1, h6, hp, hr0, ht, hl, hM, hDy, hQ⟩ := h
      refine ⟨_, rss_cons (rs_if (pt_cmpR (op_eqD hr.units) (pv 1) (pe_fld (pv 0) rfl) (nomark _)) (rss_cons (rs_yield (pv 2)) (rss_one (rs_ps ps_retN))) rss_nil)
        (rss_one (rs_for rfl (pi_tup (pe_c c1 hr (by omega) (by rfl) (pa_cons (pv 1) pa_nil))) (pg_name (i := 3) nd rfl (.inl rfl))
          (rss_one (rs_yieldFrom (pmk_mt ih (hr.mono (by omega)) (pv 0) (pa_cons (pe_c c2 hr (by omega) (by rfl) (pa_cons (pe_fld (pv 0) rfl) (pa_cons (pv 1) (pa_cons (pv 3) pa_nil)))) (pa_cons (pe_op op_catA (pv 2) (pe_tup (pa_cons (pv 3) pa_nil))) pa_nil))) hr)))), ?_⟩
      obtain ⟨dx, kvs, hc, hB, hg, hd, hK⟩ := id hC
      refine ⟨.ref p, rfl, .ref c, rfl, c, CC, dx, _, .ref g, rfl, hc, F.c, F.ng, rfl, ?_⟩
      refine ⟨_, _, dp_tup (ns := (List.range S.n).map r) (by rw [← rv_ints]; exact hp), dp_tup (ns := (List.range S.n).map rho) (by rw [← rv_ints]; exact SqT.of hg), shaped_ints _, shaped_ints _, _, rfl, ?_⟩
      rw [eqv_ints, decide_eq_false (row_ne hr0)]
      refine ⟨.ref p, rfl, p, S.n, r, rfl, h6, hp, fun tb H1 s1 hb => ⟨tb, rfl, ⟨_, hb⟩, ?_⟩⟩
      refine gfor_tup (xs := wv (bl S.n r)) (fun i ys σ H2 => Same H H2 ∧ SqT K H2 tb (wv (bl S.n r)) ∧ Out K H2 ((fl S k r ((bl S.n r).take i)).map (pre ++ ·)) ys ∧ ∃ y, σ = [some (.ref c), some (.ref p), some (.ref t), y]) ⟨s1, hb, Out.nil, _, rfl⟩ (fun i ys σ H2 _ z => z.2.1) (fun i x ys σ H2 hx z => ?_) (fun ys σ H2 z => ?_)
      · obtain ⟨s2, htb, hO, y, rfl⟩ := z
        obtain ⟨a, ha, rfl⟩ := wv_at hx
        obtain ⟨han, hneg⟩ := mem_bl.mp (List.mem_of_getElem? ha)
        obtain ⟨j, ej, hra⟩ := hr0.dn han hneg
        have ejk : j = k := by omega
        subst ejk
        have etk : (bl S.n r).take (i + 1) = (bl S.n r).take i ++ [a] := by rw [List.take_add_one, ha]; rfl
        have efl : fl S j r ((bl S.n r).take (i + 1)) = fl S j r ((bl S.n r).take i) ++ (wl S j (press S.w a r)).map (a :: ·) := by
          rw [etk, fl_append, fl_cons, fl_nil, List.append_nil]
        have ewl : wl S (j + 1) r = fl S j r ((bl S.n r).take (i + 1)) ++ fl S j r ((bl S.n r).drop (i + 1)) := by
          rw [wl_fl, ← fl_append, List.take_append_drop]
        have elen : (fl S j r ((bl S.n r).take i)).length + (wl S j (press S.w a r)).length ≤ (wl S (j + 1) r).length := by
          have e := congrArg List.length ewl
          rw [efl, List.length_append, List.length_append, List.length_map] at e
          omega
        have hmp : ∀ l : List (List Nat), l.map (pre ++ [a] ++ ·) = (l.map (a :: ·)).map (pre ++ ·) := fun l => by
          rw [List.map_map]
          refine List.map_congr_left fun u _ => ?_
          show pre ++ [a] ++ u = pre ++ (a :: u)
          rw [List.append_assoc]; rfl
        refine ⟨(wl S j (press S.w a r)).length, ?_, ?_⟩
        · have := hO.len
          rw [List.length_map] at this
          omega
        · have hC2 := hC.same s2
          obtain ⟨dx2, kvs2, hc2, hB2, hg2, hd2, hK2⟩ := id hC2
          refine ⟨.ref c, rfl, c, dx2, _, rfl, hc2, rfl, .ref c, rfl, c, CC, dx2, _, .ref b, rfl, hc2, F.c, F.nb, rfl, .ref p, rfl, .int ((a : Nat) + 1), rfl, b, p, S, r, a, rfl, hB2, hW, h6, Same.tup s2 hp, han, fun p3 H3 s3 hp3 => ?_⟩
          refine ⟨.ref t, rfl, .int ((a : Nat) + 1), rfl, (by show 1 ≤ sizeLine; decide), fun q nq => ?_⟩
          have s4 : Same H (upd H3 q (.tup [.int ((a : Nat) + 1)])) := (s2.trans s3).trans (same_upd nq)
          have fin : ∀ (t2 : Addr) (H5 : Hp), Same (upd H3 q (.tup [.int ((a : Nat) + 1)])) H5 → SqT K H5 t2 (wv (pre ++ [a])) → spWords K C CC j ([.ref c, .ref p3, .ref t2] ++ []) H5 (wl S j (press S.w a r)).length (fun zs H1 => Dy (ys ++ zs) H1) (fun zs H1 => Same H H1 ∧ SqT K H1 tb (wv (bl S.n r)) ∧ Out K H1 ((fl S j r ((bl S.n r).take (i + 1))).map (pre ++ ·)) (ys ++ zs) ∧ ∃ y, [some (V.ref c), some (.ref p), some (.ref t), some (.int ((a : Nat) + 1))] = [some (.ref c), some (.ref p), some (.ref t), y]) := fun t2 H5 s5 ht2 => by
            have s6 := s4.trans s5
            refine ⟨c, p3, t2, b, g, d, S, r0, _, pre ++ [a], rfl, hC.same s6, hW, h1, h6, SqT.of (s5 _ _ (same_upd nq _ _ hp3)), hra, ht2, by rw [List.length_append]; show pre.length + 1 + j ≤ 100; omega, Nat.le_refl _, fun m zs H6 hm s7 hz => ?_, fun zs H6 s7 hz => ?_⟩
            · refine hDy ((fl S j r ((bl S.n r).take i)).length + m) (ys ++ zs) H6 (by omega) (s6.trans s7) ?_
              have e : (wl S (j + 1) r).take ((fl S j r ((bl S.n r).take i)).length + m) = fl S j r ((bl S.n r).take i) ++ ((wl S j (press S.w a r)).take m).map (a :: ·) := by
                rw [ewl, efl, List.append_assoc, List.take_length_add_append, List.take_append_of_le_length (by rw [List.length_map]; exact hm), List.map_take]
              rw [e, List.map_append]
              rw [hmp] at hz
              exact (hO.same ((s3.trans (same_upd nq)).trans (s5.trans s7))).append hz
            · refine ⟨s6.trans s7, Same.tup ((s3.trans (same_upd nq)).trans (s5.trans s7)) htb, ?_, _, rfl⟩
              rw [efl, List.map_append]
              rw [hmp] at hz
              exact (hO.same ((s3.trans (same_upd nq)).trans (s5.trans s7))).append hz
          refine ⟨t, q, wv pre, _, rfl, rfl, Same.tup s4 ht, .inl (.inl upd_same), ?_, fun e => ?_, (fun _ e => nomatch e), fun _ _ t2 nt2 => ?_⟩
          · rw [wv_len]
            exact Nat.le_of_lt (small1000 (by show pre.length + 1 ≤ 1000; omega))
          · refine fin q _ (fun _ _ e => e) ?_
            have ep : pre = [] := by
              have := congrArg List.length e
              rw [wv_len] at this
              exact List.length_eq_zero_iff.mp this
            subst ep
            exact .inl (.inl upd_same)
          · refine fin t2 _ (same_upd nt2) (.inl (.inl ?_))
            rw [upd_same]
            unfold wv
            rw [List.map_append]
            rfl
      · obtain ⟨s2, htb, hO, y, rfl⟩ := z
        rw [wv_len, List.take_of_length_le (Nat.le_refl _), ← wl_fl] at hO
        exact hQ ys H2 s2 hO
end
end Bw
-- WkQ
set_option autoImplicit true
set_option maxRecDepth 512
set_option Elab.async false
set_option linter.all false
set_option maxRecDepth 100000
set_option maxHeartbeats 1000000
/-! WkQ: shortest_words. -/
namespace Bw
open PySem PySem.Spec PyProof.Rows L2 C8 Ra
theorem k_le {S : Sys} {u : List Nat} {k : Nat} (hlt : ∀ l ∈ u, l < S.n) (hre : Reach S k (pr S.w u.reverse rho)) : k ≤ u.length := by
  obtain ⟨j, hj, hl⟩ := reach_pr (S := S) u.reverse (fun l hl => hlt l (List.mem_reverse.mp hl)) Reach.zero
  rw [List.length_reverse] at hl
  have := Reach.uniq hj hre
  omega
section
variable {P : Program} {w : World} {Φ : Outcome → Shared → Prop} {K : PySem.W.Frag} {mg : Str → Option Value} {base : Heap} {C CC : Addr}
def spShort (K : PySem.W.Frag) (C : Addr) : SpY := fun vs H M Dy Q => ∃ (b a : Addr) (S : Sys) (u : List Nat) (k : Nat), vs = [.ref b, .ref a] ∧ Bo K C H b S ∧ Wt S ∧ 1 ≤ S.n ∧ S.n ≤ 6 ∧ SqA K H a (wv u) ∧ (∀ l ∈ u, l < S.n) ∧ u.length ≤ 9 ∧ Reach S k (pr S.w u.reverse rho) ∧
  (wl S k (pr S.w u.reverse rho)).length ≤ M ∧ (∀ i ys H', i ≤ (wl S k (pr S.w u.reverse rho)).length → Same H H' → Out K H' ((wl S k (pr S.w u.reverse rho)).take i) ys → Dy ys H') ∧ (∀ ys H', Same H H' → Out K H' (wl S k (pr S.w u.reverse rho)) ys → Q ys H')
theorem ok_short (F : CF K CC) (G : GD K mg "shortest_words" s_shortest_words) (c1 : Cal P w K mg base 4 "need_led" (spNeedLed K C) []) (c2 : Mak P w K mg base 4 "Counter" CC (spCinit K C CC) []) (c3 : Cal P w K mg base 7 "other_row" (spOther K C) [])
    (c4 : ∀ k, GMet P w Φ K mg base (8 + 3 * k) CC "words" (spWords K C CC k)) : GCal P w Φ K mg base 41 "shortest_words" (spShort K C) := by
  refine gcal_of (k := 40) (N := ["bonds", "word"]) (ps := ["bonds", "word"]) G ⟨rfl, rfl, rfl, by decide +kernel, rfl, by decide +kernel, by decide +kernel⟩ (fun _ _ _ _ _ _ us hl => match us, hl with | [_, _], _ => rfl) (fun vs H M Dy Q h => ?_) (fun f cdv A outer s H vs M Dy Q Ls hr h => ?_)
  · obtain ⟨a, _, _, _, _, rfl, _⟩ := h
    rfl
  · obtain ⟨b, a, S, u, k, rfl, hB, hW, h1, hn, hA, hlt, h9, hre, hM, hDy, hQ⟩ := h
    have k9 := k_le hlt hre
    refine ⟨_, rss_cons (rs_ps (ps_expr (pe_c c1 hr (by decide) (by rfl) (pa_cons (pv 0) (pa_cons (pv 1) pa_nil))))) (rss_one (rs_yieldFrom (pmk_mt (c4 k) (hr.mono (by omega)) (pe_mk c2 hr (by decide) (by rfl) (pa_cons (pv 0) pa_nil)) (pa_cons (pe_c c3 hr (by decide) (by rfl) (pa_cons (pv 0) (pa_cons (pv 1) pa_nil))) (pa_cons (pe_tup pa_nil) pa_nil))) (hr.mono (by omega)))), ?_⟩
    refine ⟨.ref b, rfl, .ref a, rfl, b, a, S, u, rfl, hB, hn, hA, by omega, hlt, fun H1 s1 => ?_⟩
    refine ⟨(wl S k (pr S.w u.reverse rho)).length, by show 0 + _ ≤ M; omega, ?_⟩
    refine ⟨.ref b, rfl, fun x dx nx ndx ne => ?_⟩
    have s2 : Same H (upd (upd H1 dx (.own x)) x (.ins CC dx [])) := fun y o e => by
      have e1 := s1 _ _ e
      rw [upd_ne (ne_of_none e1 nx), upd_ne (ne_of_none e1 ndx)]
      exact e1
    refine ⟨x, dx, b, S, rfl, ne, upd_same, hB.same s2, h1, hn, fun H2 g d nd s3 hC => ⟨rfl, x, ?_⟩⟩
    obtain ⟨dy, kvs, hx2, _⟩ := hC rho
    have s4 : Same H H2 := fun y o e => s3 _ _ (s2 _ _ e) (ne_of_none (s1 _ _ e) nx)
    refine ⟨dy, _, rfl, hx2, rfl, .ref b, rfl, .ref a, rfl, b, a, S, u, rfl, hB.same s4, hW, h1, hn, hA.same s4, hlt, fun p H3 s5 hp => ⟨Nat.zero_le _, fun t nt => ?_⟩⟩
    have s6 := s5.trans (same_upd (o := .tup []) nt)
    have s7 := Same.trans s4 s6
    have e0 : ∀ l : List (List Nat), l.map (([] : List Nat) ++ ·) = l := fun l => by
      conv => rhs; rw [← List.map_id l]
      exact List.map_congr_left fun _ _ => rfl
    refine ⟨x, p, t, b, g, d, S, rho, _, [], rfl, (hC rho).same s6, hW, h1, hn, SqT.of (same_upd nt _ _ hp), hre, .inl (.inl upd_same), by show 0 + k ≤ 100; omega, Nat.le_refl _, fun i ys H6 hi s8 hz => ?_, fun ys H6 s8 hz => ?_⟩
    · rw [e0] at hz
      exact hDy i ys H6 hi (s7.trans s8) hz
    · rw [e0] at hz
      exact hQ ys H6 (s7.trans s8) hz
end
end Bw
-- WkT
set_option autoImplicit true
set_option maxRecDepth 512
set_option Elab.async false
set_option linter.all false
set_option maxRecDepth 100000
set_option maxHeartbeats 1000000
/-! WkT: _law_mixed, _law_folded. -/
namespace Bw
open PySem PySem.Spec PyProof.Rows L2 C8
section
variable {P : Program} {w : World} {K : PySem.W.Frag} {mg : Str → Option Value} {base : Heap} {C CC : Addr}
def spMixed : Sp := fun vs H Q _ => ∃ c n : Int, vs = [.int c, .int n] ∧ 0 ≤ c ∧ c < 4294967296 ∧ 0 ≤ n ∧ n < 1000000 ∧ ∀ v, 0 ≤ v → v < 2147483648 → Q (.int v) H
theorem ok_mixed (G : GD K mg "_law_mixed" s_L_mixed) (m1 : mg "int" = none) : Cal P w K mg base 1 "_law_mixed" spMixed [] := by
  refine cal_of (N := ["cell", "n", "blend"]) (ps := ["cell", "n"]) G ⟨rfl, rfl, rfl, by decide +kernel, rfl, by decide +kernel, by decide +kernel⟩ (fun _ _ _ _ _ _ us hl => match us, hl with | [_, _], _ => rfl) (fun vs H Q E h => ?_) (fun f cdv A outer s H vs Q E hr h => ?_)
  · obtain ⟨_, _, rfl, _⟩ := h
    rfl
  · obtain ⟨c, n, rfl, c0, c1, n0, n1, q⟩ := h
    have nd : (["cell", "n", "blend"] : List Str).Nodup := by decide +kernel
    refine ⟨_, pss_cons (ps_set (i := 2) nd rfl (.inl rfl) (pe_op op_add (pe_op op_add (pe_op op_mod (pe_callTy call_int1 (by rfl) m1 boot_int (pa_cons (pe_op op_mul (pe_op op_mul (pv 0) (pe_op op_add pe_int (pe_op op_mul pe_int (pv 1)))) pe_int) pa_nil)) pe_int) (pe_op op_mul (pe_op op_mul pe_int (pv 1)) (pv 1))) (pe_op op_mul pe_int (pv 1))))
      (pss_one (ps_ret (pe_op op_fdiv (pe_op op_mod (pe_callTy call_int1 (by rfl) m1 boot_int (pa_cons (pe_op op_mul (pv 2) pe_int) pa_nil)) pe_int) pe_int))), ?_⟩
    have b1 : 0 ≤ 7919 * n := by omega
    refine ⟨.int c, rfl, .int n, rfl, 2, n, rfl, rfl, .inl ⟨by decide, by decide⟩, 1, _, rfl, rfl, c, _, rfl, rfl, .inl ⟨by omega, by omega⟩, _, 48271, rfl, rfl, .inr ⟨by decide, by decide⟩, .inl ⟨_, rfl, ?_⟩⟩
    refine ⟨_, 2147483647, rfl, rfl, (show (0 : Int) < 2147483647 by decide), .int n, rfl, 7919, n, rfl, rfl, .inl ⟨by decide, by decide⟩, .int n, rfl, _, n, rfl, rfl, .inl ⟨by omega, by omega⟩, _, _, rfl, rfl, .int n, rfl, 104729, n, rfl, rfl, .inl ⟨by decide, by decide⟩, _, _, rfl, rfl, ?_⟩
    refine ⟨_, rfl, _, 69621, rfl, rfl, .inr ⟨by decide, by decide⟩, .inl ⟨_, rfl, _, 2147483629, rfl, rfl, (show (0 : Int) < 2147483629 by decide), _, 7, rfl, rfl, ⟨by decide, by decide⟩, ?_⟩⟩
    refine q _ ?_ ?_
    · exact Int.ediv_nonneg (Int.emod_nonneg _ (by decide)) (by decide)
    · refine Int.ediv_lt_of_lt_mul (by decide) ?_
      exact Int.lt_trans (Int.emod_lt_of_pos _ (by decide)) (by decide)
/-- the cells: 64 numbers -/
def Cells (cs : List Int) : Prop := cs.length = 64 ∧ ∀ c ∈ cs, 0 ≤ c ∧ c < 2147483647
theorem Cells.set {cs : List Int} (h : Cells cs) {i : Nat} {c : Int} (h0 : 0 ≤ c) (h1 : c < 2147483647) : Cells (cs.set i c) := by
  refine ⟨by rw [List.length_set]; exact h.1, fun d hd => ?_⟩
  rcases List.mem_or_eq_of_mem_set hd with z | z
  · exact h.2 d z
  · subst z
    exact ⟨h0, h1⟩
def spFolded (K : PySem.W.Frag) : Sp := fun vs H Q _ => ∃ (a : Addr) (ns : List Int), vs = [.ref a] ∧ SqL K H a (ns.map V.int) ∧ ns.length ≤ 1000 ∧ ∀ p H' cs, Same H H' → H' p = some (.lst (cs.map V.int)) → H p = none → Cells cs → Q (.ref p) H'
theorem ixN_nat {n : Nat} {k : Int} {j : Nat} (e : k = (j : Int)) (h : j < n) : ixN n k = some j := by
  subst e
  unfold ixN
  rw [if_pos (by omega), if_pos (by omega)]
  rfl
theorem ok_folded (G : GD K mg "_law_folded" s_L_folded) (m1 : mg "int" = none) (m2 : mg "range" = none) (m3 : mg "enumerate" = none) : Cal P w K mg base 1 "_law_folded" (spFolded K) [] := by
  refine cal_of (N := ["script", "found", "n", "cell"]) (ps := ["script"]) G ⟨rfl, rfl, rfl, by decide +kernel, rfl, by decide +kernel, by decide +kernel⟩ (fun _ _ _ _ _ _ us hl => match us, hl with | [_], _ => rfl) (fun vs H Q E h => ?_) (fun f cdv A outer s H vs Q E hr h => ?_)
  · obtain ⟨_, _, rfl, _⟩ := h
    rfl
  · obtain ⟨a, ns, rfl, hL, hl, q⟩ := h
    have nd : (["script", "found", "n", "cell"] : List Str).Nodup := by decide +kernel
    refine ⟨_, pss_cons (ps_setLc (i := 1) (own := [("n", 2)]) (g := gName 2) (tt := tYes) rfl nd rfl rfl (sw_true rfl rfl rfl (by decide +kernel)) (pi_range1 (by rfl) m2 (pa_cons pe_int pa_nil)) (blkOk_by (own := [("n", 2)]) (N := ["script", "found", "n", "cell"]) (sc := defScope s_L_folded) (by decide +kernel))
          (fun _ _ _ _ _ => pg_name (i := 2) nd rfl (.inl rfl)) (fun _ _ _ _ _ => pts_nil) (fun _ _ _ _ _ => pe_op op_add pe_int (pv 2)))
      (pss_cons (ps_for PassesOwn.never rfl (pi_enum (by rfl) m3 (pa_cons (pv 0) pa_nil)) (pg_tup rfl (pgs_cons (pg_name (i := 2) nd rfl (.inl rfl)) (pgs_cons (pg_name (i := 3) nd rfl (.inl rfl)) pgs_nil)))
        (pss_one (ps_asg (pe_op op_mod (pe_callTy call_int1 (by rfl) m1 boot_int (pa_cons (pe_op op_add (pe_op op_mul (pe_ix ix_list (pv 1) (pe_op op_mod (pe_callTy call_int1 (by rfl) m1 boot_int (pa_cons (pv 2) pa_nil)) pe_int) (fun _ _ => rfl)) pe_int) (pv 3)) pa_nil)) pe_int) (pg_sub (pv 1) (pe_op op_mod (pe_callTy call_int1 (by rfl) m1 boot_int (pa_cons (pv 2) pa_nil)) pe_int) set_list))))
      (pss_cons (ps_for PassesOwn.never rfl (pi_range2 (by rfl) m2 (pa_cons pe_int (pa_cons pe_int pa_nil))) (pg_name (i := 2) nd rfl (.inl rfl))
        (pss_one (ps_asg (pe_op op_mod (pe_callTy call_int1 (by rfl) m1 boot_int (pa_cons (pe_op op_add (pe_ix ix_list (pv 1) (pv 2) (fun _ _ => rfl)) (pe_op op_mul (pe_ix ix_list (pv 1) (pe_op op_sub (pv 2) pe_int) (fun _ _ => rfl)) pe_int)) pa_nil)) pe_int) (pg_sub (pv 1) (pv 2) set_list))))
      (pss_one (ps_ret (pv 1))))), ?_⟩
    refine ⟨64, rfl, by decide, by decide, fun D nD => ?_⟩
    refine lc_range (lo := 0) (n := 64) (fun i H1 => Same H H1 ∧ ∃ cs : List Int, H1 D = some (.lst (cs.map V.int)) ∧ cs.length = i ∧ ∀ c ∈ cs, 0 ≤ c ∧ c < 2147483647) ⟨same_upd nD, [], upd_same, rfl, fun c hc => absurd hc List.not_mem_nil⟩ (fun i H1 hi z => ?_) (fun H1 z => ?_)
    · obtain ⟨s1, cs, eD, el, hb⟩ := z
      refine ⟨rfl, _, rfl, 17, _, rfl, rfl, _, eD, ?_, ?_, cs ++ [17 + (0 + (i : Int))], ?_, ?_, ?_⟩
      · rw [List.length_map]
        exact small1000 (by omega)
      · intro x o e
        rw [upd_ne (ne_of_none e nD)]
        exact s1 _ _ e
      · rw [upd_same, List.map_append]; rfl
      · rw [List.length_append, el]; rfl
      · intro c hc
        rcases List.mem_append.mp hc with z | z
        · exact hb c z
        · rw [List.mem_singleton.mp z]
          constructor <;> omega
    · obtain ⟨s1, cs0, eD0, el0, hb0⟩ := z
      refine ⟨.ref a, rfl, a, _, rfl, s1.seq hL, ?_⟩
      refine for_it walk_enum (fun i σ H2 => Same H H2 ∧ (∃ cs : List Int, H2 D = some (.lst (cs.map V.int)) ∧ Cells cs) ∧ ∃ y2 y3, σ = [some (.ref a), some (.ref D), y2, y3]) ⟨s1, ⟨cs0, eD0, el0, hb0⟩, _, _, rfl⟩ (fun i σ H2 _ z => z.1.seq hL) (fun i x σ H2 H3 hi z hy => ?_) (fun σ H2 z => ?_)
      · obtain ⟨s2, ⟨cs, eD, hc⟩, y2, y3, rfl⟩ := z
        obtain ⟨T, x1, x2, rfl, nT, rfl, e1, e2⟩ := hy
        cases Option.some.inj e1
        rw [List.length_map] at hi
        have s3 : Same H (upd H2 T (.tup [.int (i : Nat), x2])) := s2.trans (same_upd nT)
        have eD3 : (upd H2 T (.tup [.int (i : Nat), x2])) D = some (.lst (cs.map V.int)) := same_upd nT _ _ eD
        obtain ⟨z2, rfl⟩ : ∃ z : Int, x2 = .int z := by
          have e2 : (ns.map V.int)[i]? = some x2 := e2
          rw [List.getElem?_map] at e2
          cases h : ns[i]? with
          | none => rw [h] at e2; cases e2
          | some z => rw [h] at e2; exact ⟨z, (Option.some.inj e2).symm⟩
        have hm : (i % 64 : Nat) < cs.length := by rw [hc.1]; exact Nat.mod_lt _ (by decide)
        have em : ((i : Nat) : Int) % 64 = ((i % 64 : Nat) : Int) := rfl
        have ec : cs[i % 64]? = some cs[i % 64] := List.getElem?_eq_getElem hm
        have hcc := hc.2 _ (List.mem_of_getElem? ec)
        refine ⟨T, _, rfl, .inl (.inl upd_same), rfl, _, _, rfl, _, _, rfl, rfl, ?_⟩
        refine ⟨.ref D, rfl, .int (i : Nat), rfl, .inl ⟨_, rfl, _, 64, rfl, rfl, (show (0 : Int) < 64 by decide), D, _, _, .int cs[i % 64], rfl, rfl, .inl (.inl eD3), atI_nat' em (by rw [List.getElem?_map, ec]; rfl), ?_⟩⟩
        refine ⟨_, 48271, rfl, rfl, .inr ⟨by decide, by decide⟩, .int z2, rfl, _, _, rfl, rfl, .inl ⟨_, rfl, _, 2147483647, rfl, rfl, (show (0 : Int) < 2147483647 by decide), ?_⟩⟩
        refine ⟨.ref D, rfl, .int (i : Nat), rfl, .inl ⟨_, rfl, _, 64, rfl, rfl, (show (0 : Int) < 64 by decide), ?_⟩⟩
        have hlen3 : (cs.map V.int).length = 64 := by rw [List.length_map]; exact hc.1
        refine ⟨D, _, _, i % 64, rfl, rfl, eD3, ixN_nat em (by rw [hlen3]; exact Nat.mod_lt _ (by decide)), ?_, ⟨cs.set (i % 64) ((cs[i % 64] * 48271 + z2) % 2147483647), ?_, hc.set (Int.emod_nonneg _ (by decide)) (Int.emod_lt_of_pos _ (by decide))⟩, _, _, rfl⟩
        · intro x o e
          rw [upd_ne (ne_of_none e nD)]
          exact s3 x o e
        · rw [upd_same, List.map_set]
      · obtain ⟨s2, ⟨cs, eD, hc⟩, y2, y3, rfl⟩ := z
        refine ⟨1, 64, rfl, by decide, ?_⟩
        refine for_range (lo := 1) (n := 63) (fun i σ H2 => Same H H2 ∧ (∃ cs : List Int, H2 D = some (.lst (cs.map V.int)) ∧ Cells cs) ∧ ∃ y2, σ = [some (.ref a), some (.ref D), y2, y3]) ⟨s2, ⟨cs, eD, hc⟩, _, rfl⟩ (fun i σ H3 hi z => ?_) (fun σ H3 z => ?_)
        · obtain ⟨s3, ⟨cs, eD3, hc⟩, y2, rfl⟩ := z
          have hi1 : i + 1 < cs.length := by rw [hc.1]; omega
          have ec1 : cs[i + 1]? = some cs[i + 1] := List.getElem?_eq_getElem hi1
          have ec0 : cs[i]? = some (cs[i]'(by omega)) := List.getElem?_eq_getElem (by omega)
          have e1 : (1 : Int) + (i : Nat) = ((i + 1 : Nat) : Int) := by omega
          have e0 : (1 : Int) + (i : Nat) - 1 = ((i : Nat) : Int) := by omega
          have hb0 := hc.2 _ (List.mem_of_getElem? ec0)
          refine ⟨.ref D, rfl, .int (1 + (i : Nat)), rfl, D, _, _, _, rfl, rfl, .inl (.inl eD3), atI_nat' e1 (by rw [List.getElem?_map, ec1]; rfl), ?_⟩
          refine ⟨.ref D, rfl, .int (1 + (i : Nat)), rfl, _, 1, rfl, rfl, D, _, _, _, rfl, rfl, .inl (.inl eD3), atI_nat' e0 (by rw [List.getElem?_map, ec0]; rfl), ?_⟩
          refine ⟨_, 16807, rfl, rfl, .inr ⟨by decide, by decide⟩, _, _, rfl, rfl, .inl ⟨_, rfl, _, 2147483647, rfl, rfl, (show (0 : Int) < 2147483647 by decide), ?_⟩⟩
          refine ⟨.ref D, rfl, .int (1 + (i : Nat)), rfl, D, _, _, i + 1, rfl, rfl, eD3, ixN_nat e1 (by rw [List.length_map]; exact hi1), ?_, ⟨cs.set (i + 1) ((cs[i + 1] + (cs[i]'(by omega)) * 16807) % 2147483647), ?_, hc.set (Int.emod_nonneg _ (by decide)) (Int.emod_lt_of_pos _ (by decide))⟩, _, rfl⟩
          · intro x o e
            rw [upd_ne (ne_of_none e nD)]
            exact s3 x o e
          · rw [upd_same, List.map_set]
        · obtain ⟨s3, ⟨cs, eD3, hc⟩, y2, rfl⟩ := z
          exact ⟨.ref D, rfl, q D H3 cs s3 eD3 nD hc⟩
end
end Bw
-- WkU
set_option autoImplicit true
set_option maxRecDepth 512
set_option Elab.async false
set_option linter.all false
set_option maxRecDepth 100000
set_option maxHeartbeats 1000000
/-! WkU: _law_draw. -/
namespace Bw
open PySem PySem.Spec PyProof.Rows L2 C8
theorem dp_list {K : PySem.W.Frag} {H : Hp} {a : Addr} {ns : List Int} (h : SqL K H a (ns.map V.int)) : Dp K H (.ref a) (.list (ns.map PyData.int)) := .lst h (dp_ints ns)
theorem shapedL_ints (ns : List Int) : SeqAt.shaped (.list (ns.map PyData.int)) = true := by
  have h1 : ∀ ns : List Int, PyData.canLayAll0 (ns.map PyData.int) = true := by
    intro ns
    induction ns with
    | nil => simp [PyData.canLayAll0]
    | cons n ns ih => simp [PyData.canLayAll0, PyData.canLay0, ih]
  have h2 : ∀ ns : List Int, PyData.depthAll (ns.map PyData.int) ≤ 1 := by
    intro ns
    induction ns with
    | nil => simp [PyData.depthAll]
    | cons n ns ih => simp [PyData.depthAll, PyData.depth]; omega
  have := h2 ns
  simp [SeqAt.shaped, PyData.canLay0, PyData.depth, h1]
  omega
theorem eqvL_ints (ns ms : List Int) : PyData.eqv (.list (ns.map PyData.int)) (.list (ms.map PyData.int)) = decide (ns = ms) := by
  have := eqv_ints ns ms
  simp only [PyData.eqv] at this ⊢
  exact this
/-- the state from which is drawn -/
def Ms (H : Hp) (m cl gr : Addr) (n : Nat) : Prop := ∃ cs gs : List Int, H m = some (.dK [(Sum.inr "cells", .ref cl), (Sum.inr "great", .ref gr), (Sum.inr "spot", .int (n : Nat))]) ∧ H cl = some (.lst (cs.map V.int)) ∧ Cells cs ∧ H gr = some (.lst (gs.map V.int)) ∧ cl ≠ gr ∧ gs.length ≤ 1000
def SameM (m gr : Addr) (H H' : Hp) : Prop := ∀ x o, x ≠ m → x ≠ gr → H x = some o → H' x = some o
theorem SameM.refl (m gr : Addr) (H : Hp) : SameM m gr H H := fun _ _ _ _ e => e
theorem SameM.trans {m gr : Addr} {H1 H2 H3 : Hp} (a : SameM m gr H1 H2) (b : SameM m gr H2 H3) : SameM m gr H1 H3 := fun x o n1 n2 e => b x o n1 n2 (a x o n1 n2 e)
theorem Same.toM {m gr : Addr} {H H' : Hp} (s : Same H H') : SameM m gr H H' := fun x o _ _ e => s x o e
theorem Ms.same {H H' : Hp} {m cl gr : Addr} {n : Nat} (h : Ms H m cl gr n) (s : Same H H') : Ms H' m cl gr n := by
  obtain ⟨cs, gs, h1, h2, h3, h4, h5, h6⟩ := h
  exact ⟨cs, gs, s _ _ h1, s _ _ h2, h3, s _ _ h4, h5, h6⟩
section
variable {P : Program} {w : World} {K : PySem.W.Frag} {mg : Str → Option Value} {base : Heap} {C CC : Addr}
def spDraw : Sp := fun vs H Q _ => ∃ (m cl gr : Addr) (n lim : Nat), vs = [.ref m, .int (lim : Nat)] ∧ Ms H m cl gr n ∧ 0 < lim ∧ lim < 1000000 ∧ n < 100000 ∧ ∀ (v : Nat) H', v < lim → SameM m gr H H' → Ms H' m cl gr (n + 1) → Q (.int (v : Nat)) H'
theorem ok_draw (G : GD K mg "_law_draw" s_L_draw) (cm : Cal P w K mg base 1 "_law_mixed" spMixed []) (m1 : mg "int" = none) (m2 : mg "len" = none) : Cal P w K mg base 2 "_law_draw" spDraw [] := by
  refine cal_of (N := ["m", "limit", "n", "lot", "here", "cell"]) (ps := ["m", "limit"]) G ⟨rfl, rfl, rfl, by decide +kernel, rfl, by decide +kernel, by decide +kernel⟩ (fun _ _ _ _ _ _ us hl => match us, hl with | [_, _], _ => rfl) (fun vs H Q E h => ?_) (fun f cdv A outer s H vs Q E hr h => ?_)
  · obtain ⟨_, _, _, _, _, rfl, _⟩ := h
    rfl
  · obtain ⟨m, cl, gr, n, lim, rfl, hM, l0, l1, hn, q⟩ := h
    have nd : (["m", "limit", "n", "lot", "here", "cell"] : List Str).Nodup := by decide +kernel
    have hu := hu_of hr
    refine ⟨_, pss_cons (ps_set (i := 2) nd rfl (.inl rfl) (pe_dget hu (pv 0) pe_str (fun _ _ => rfl)))
      (pss_cons (ps_dput hu (pv 0) pe_str (pe_op op_add (pv 2) pe_int) rfl)
      (pss_cons (ps_if (pt_cmpR (op_neD hr.units) (pe_dget hu (pv 0) pe_str (fun _ _ => rfl)) (pe_lst pa_nil) (nomark _))
        (pss_cons (ps_set (i := 3) nd rfl (.inl rfl) (pe_dget hu (pv 0) pe_str (fun _ _ => rfl)))
        (pss_cons (ps_set (i := 4) nd rfl (.inl rfl) (pe_op op_mod (pe_callTy call_int1 (by rfl) m1 boot_int (pa_cons (pv 2) pa_nil)) (pe_callB call_len (by rfl) m2 boot_len (pa_cons (pv 3) pa_nil))))
        (pss_cons (ps_set (i := 5) nd rfl (.inl rfl) (pe_ix ix_list (pv 3) (pv 4) (fun _ _ => rfl)))
        (pss_one (ps_if (pt_cmpR op_gt (pv 5) pe_int (nomark _))
          (pss_cons (ps_asg (pe_op op_fdiv (pv 5) (pv 1)) (pg_sub (pv 3) (pv 4) set_list)) (pss_one (ps_ret (pe_op op_mod (pe_callTy call_int1 (by rfl) m1 boot_int (pa_cons (pv 5) pa_nil)) (pv 1))))) pss_nil))))) pss_nil)
      (pss_cons (ps_set (i := 3) nd rfl (.inl rfl) (pe_dget hu (pv 0) pe_str (fun _ _ => rfl)))
      (pss_one (ps_ret (pe_op op_mod (pe_callTy call_int1 (by rfl) m1 boot_int (pa_cons (pe_c cm hr (by decide) (by rfl) (pa_cons (pe_c cm hr (by decide) (by rfl) (pa_cons (pe_op op_add (pe_ix ix_list (pv 3) (pe_op op_mod (pe_callTy call_int1 (by rfl) m1 boot_int (pa_cons (pv 2) pa_nil)) pe_int) (fun _ _ => rfl)) (pe_op op_mul pe_int (pe_op op_fdiv (pv 2) pe_int))) (pa_cons (pv 2) pa_nil))) (pa_cons (pe_op op_add (pv 2) pe_int) pa_nil))) pa_nil)) (pv 1))))))), ?_⟩
    obtain ⟨cs, gs, hm, hcl, hcs, hgr, ncg, hgl⟩ := id hM
    have gspot := DGet.k (k := Sum.inr "spot") hm
    have mput := DPut.k (k := Sum.inr "spot") (v := .int ((n : Nat) + 1)) hm (by show 3 < sizeLine; decide)
    have mcl : m ≠ cl := ne_of hm hcl (fun z => nomatch z)
    have mgr : m ≠ gr := ne_of hm hgr (fun z => nomatch z)
    refine ⟨.ref m, rfl, m, .int (n : Nat), rfl, gspot, ?_⟩
    refine ⟨.int (n : Nat), rfl, _, 1, rfl, rfl, .ref m, rfl, m, _, rfl, mput, ?_⟩
    -- the dict with the next number
    have eH1 : upd H m (.dK (putK [(Sum.inr "cells", V.ref cl), (Sum.inr "great", .ref gr), (Sum.inr "spot", .int (n : Nat))] (Sum.inr "spot" : L2.Key) (.int ((n : Nat) + 1)))) = upd H m (.dK [(Sum.inr "cells", .ref cl), (Sum.inr "great", .ref gr), (Sum.inr "spot", .int ((n + 1 : Nat) : Int))]) := by
      congr 2
    rw [eH1]
    generalize hH1 : upd H m (.dK [(Sum.inr "cells", V.ref cl), (Sum.inr "great", .ref gr), (Sum.inr "spot", .int ((n + 1 : Nat) : Int))]) = H1
    have hm1 : H1 m = some (.dK [(Sum.inr "cells", .ref cl), (Sum.inr "great", .ref gr), (Sum.inr "spot", .int ((n + 1 : Nat) : Int))]) := by rw [← hH1, upd_same]
    have hcl1 : H1 cl = some (.lst (cs.map V.int)) := by rw [← hH1, upd_ne (Ne.symm mcl)]; exact hcl
    have hgr1 : H1 gr = some (.lst (gs.map V.int)) := by rw [← hH1, upd_ne (Ne.symm mgr)]; exact hgr
    have s1 : SameM m gr H H1 := fun x o n1 n2 e => by rw [← hH1, upd_ne n1]; exact e
    have gcells : ∀ {H2 : Hp}, Same H1 H2 → DGet H2 m (kV (Sum.inr "cells")) (some (.ref cl)) := fun s2 => DGet.k (k := Sum.inr "cells") (s2 _ _ hm1)
    have ggreat : ∀ {H2 : Hp}, Same H1 H2 → DGet H2 m (kV (Sum.inr "great")) (some (.ref gr)) := fun s2 => DGet.k (k := Sum.inr "great") (s2 _ _ hm1)
    have rest : ∀ (H2 : Hp) (y3 y4 y5 : Option V), Same H1 H2 → True := fun _ _ _ _ _ => trivial
    refine ⟨.ref m, rfl, m, .ref gr, rfl, ggreat (fun _ _ e => e), Nat.zero_le _, fun l nl => ?_⟩
    have s2 := same_upd (o := .lst []) nl
    refine ⟨_, _, dp_list (ns := gs) (.inl (.inl (s2 _ _ hgr1))), dp_list (ns := []) (.inl (.inl upd_same)), shapedL_ints _, shapedL_ints _, _, rfl, ?_⟩
    rw [eqvL_ints]
    -- the second road
    have second : ∀ (y4 y5 : Option V) (H2 : Hp), Same H1 H2 → (∃ v, [some (V.ref m), some (.int (lim : Nat)), some (.int (n : Nat)), y4, y5][0]? = some (some v) ∧ v = .ref m) → True := fun _ _ _ _ _ => trivial
    have hcc : ∃ c, cs[n % 64]? = some c ∧ 0 ≤ c ∧ c < 2147483647 := by
      have hlt : n % 64 < cs.length := by rw [hcs.1]; exact Nat.mod_lt _ (by decide)
      exact ⟨_, List.getElem?_eq_getElem hlt, hcs.2 _ (List.getElem_mem hlt)⟩
    obtain ⟨c, hc, c0, c1⟩ := hcc
    have e64 : ((n : Nat) : Int) % 64 = ((n % 64 : Nat) : Int) := rfl
    have ed : ((n : Nat) : Int) / 64 = ((n / 64 : Nat) : Int) := rfl
    have tail : ∀ (H2 : Hp), Same H1 H2 → ∀ v : Int, 0 ≤ v → v < lim → Q (.int v) H2 := fun H2 s2 v v0 v1 => by
      obtain ⟨k, rfl⟩ : ∃ k : Nat, v = (k : Int) := ⟨v.toNat, by omega⟩
      exact q k H2 (by omega) (s1.trans (Same.toM s2)) ⟨cs, gs, s2 _ _ hm1, s2 _ _ hcl1, hcs, s2 _ _ hgr1, ncg, hgl⟩
    by_cases hg : gs = []
    · rw [decide_eq_true hg]
      refine ⟨.ref m, rfl, m, .ref cl, rfl, gcells s2, ?_⟩
      refine ⟨.ref cl, rfl, .int (n : Nat), rfl, .inl ⟨_, rfl, _, 64, rfl, rfl, (show (0 : Int) < 64 by decide), cl, _, _, .int c, rfl, rfl, .inl (.inl (s2 _ _ hcl1)), atI_nat' e64 (by rw [List.getElem?_map, hc]; rfl), ?_⟩⟩
      refine ⟨.int (n : Nat), rfl, _, 64, rfl, rfl, ⟨by decide, by decide⟩, 31, _, rfl, rfl, .inl ⟨by decide, by decide⟩, _, _, rfl, rfl, .int (n : Nat), rfl, _, _, rfl, by omega, by omega, by omega, by omega, fun v1 a1 b1 => ?_⟩
      refine ⟨.int (n : Nat), rfl, _, 7, rfl, rfl, _, _, rfl, by omega, by omega, by omega, by omega, fun v2 a2 b2 => .inl ⟨_, rfl, .int (lim : Nat), rfl, _, _, rfl, rfl, (show (0 : Int) < (lim : Nat) by omega), ?_⟩⟩
      exact tail _ s2 _ (Int.emod_nonneg _ (by omega)) (Int.emod_lt_of_pos _ (by omega))
    · rw [decide_eq_false hg]
      have hlt : n % gs.length < gs.length := Nat.mod_lt _ (List.length_pos_iff.mpr hg)
      have hgs : gs[n % gs.length]? = some gs[n % gs.length] := List.getElem?_eq_getElem hlt
      have eh : ((n : Nat) : Int) % ((gs.length : Nat) : Int) = ((n % gs.length : Nat) : Int) := rfl
      have hg2 := s2 _ _ hgr1
      generalize gs[n % gs.length] = g at hgs
      refine ⟨.ref m, rfl, m, .ref gr, rfl, ggreat s2, ?_⟩
      refine ⟨.int (n : Nat), rfl, .inl ⟨_, rfl, .ref gr, rfl, .ref gr, gs.length, rfl, .inl ⟨_, .inl (.inl hg2), by rw [List.length_map]⟩, _, _, rfl, rfl, (show (0 : Int) < (gs.length : Nat) by omega), ?_⟩⟩
      refine ⟨.ref gr, rfl, _, rfl, gr, _, _, .int g, rfl, rfl, .inl (.inl hg2), atI_nat' eh (by rw [List.getElem?_map, hgs]; rfl), ?_⟩
      refine ⟨.int g, rfl, _, _, rfl, rfl, _, rfl, ?_⟩
      by_cases g0 : (0 : Int) < g
      · rw [decide_eq_true g0]
        refine ⟨.int g, rfl, .int (lim : Nat), rfl, _, _, rfl, rfl, ⟨by omega, by omega⟩, .ref gr, rfl, _, rfl, gr, _, _, n % gs.length, rfl, rfl, hg2, ixN_nat eh (by rw [List.length_map]; exact hlt), ?_⟩
        refine ⟨.int g, rfl, .inl ⟨_, rfl, .int (lim : Nat), rfl, _, _, rfl, rfl, (show (0 : Int) < (lim : Nat) by omega), ?_⟩⟩
        obtain ⟨k, hk⟩ : ∃ k : Nat, g % ((lim : Nat) : Int) = (k : Int) := ⟨(g % ((lim : Nat) : Int)).toNat, by have := Int.emod_nonneg g (show ((lim : Nat) : Int) ≠ 0 by omega); omega⟩
        have hk2 := Int.emod_lt_of_pos g (show (0 : Int) < ((lim : Nat) : Int) by omega)
        show Q (.int (g % ((lim : Nat) : Int))) _
        rw [hk]
        refine q k _ (by omega) ?_ ⟨cs, gs.set (n % gs.length) (g / ((lim : Nat) : Int)), ?_, ?_, hcs, ?_, ncg, by rw [List.length_set]; exact hgl⟩
        · intro x o n1 n2 e
          rw [upd_ne n2]
          exact s2 _ _ (s1 x o n1 n2 e)
        · rw [upd_ne mgr]; exact s2 _ _ hm1
        · rw [upd_ne ncg]; exact s2 _ _ hcl1
        · rw [upd_same, List.map_set]
      · rw [decide_eq_false g0]
        refine ⟨.ref m, rfl, m, .ref cl, rfl, gcells s2, ?_⟩
        refine ⟨.ref cl, rfl, .int (n : Nat), rfl, .inl ⟨_, rfl, _, 64, rfl, rfl, (show (0 : Int) < 64 by decide), cl, _, _, .int c, rfl, rfl, .inl (.inl (s2 _ _ hcl1)), atI_nat' e64 (by rw [List.getElem?_map, hc]; rfl), ?_⟩⟩
        refine ⟨.int (n : Nat), rfl, _, 64, rfl, rfl, ⟨by decide, by decide⟩, 31, _, rfl, rfl, .inl ⟨by decide, by decide⟩, _, _, rfl, rfl, .int (n : Nat), rfl, _, _, rfl, by omega, by omega, by omega, by omega, fun v1 a1 b1 => ?_⟩
        refine ⟨.int (n : Nat), rfl, _, 7, rfl, rfl, _, _, rfl, by omega, by omega, by omega, by omega, fun v2 a2 b2 => .inl ⟨_, rfl, .int (lim : Nat), rfl, _, _, rfl, rfl, (show (0 : Int) < (lim : Nat) by omega), ?_⟩⟩
        exact tail _ s2 _ (Int.emod_nonneg _ (by omega)) (Int.emod_lt_of_pos _ (by omega))
end
end Bw
-- WkV
set_option autoImplicit true
set_option maxRecDepth 512
set_option Elab.async false
set_option linter.all false
set_option maxRecDepth 100000
set_option maxHeartbeats 1000000
/-! WkV: _law_begun. -/
namespace Bw
open PySem PySem.Spec PyProof.Rows L2 C8
section
variable {P : Program} {w : World} {K : PySem.W.Frag} {mg : Str → Option Value} {base : Heap} {C CC : Addr}
def spBegun (K : PySem.W.Frag) : Sp := fun vs H Q _ => ∃ (a : Addr) (ns : List Int), vs = [.ref a] ∧ SqL K H a (ns.map V.int) ∧ ns.length ≤ 1000 ∧ ∀ m cl gr H', Same H H' → H m = none → H gr = none → Ms H' m cl gr 0 → Q (.ref m) H'
theorem ok_begun (G : GD K mg "_law_begun" s_L_begun) (c1 : Cal P w K mg base 1 "_law_folded" (spFolded K) []) : Cal P w K mg base 2 "_law_begun" (spBegun K) [] := by
  refine cal_of (N := ["script", "m", "cell"]) (ps := ["script"]) G ⟨rfl, rfl, rfl, by decide +kernel, rfl, by decide +kernel, by decide +kernel⟩ (fun _ _ _ _ _ _ us hl => match us, hl with | [_], _ => rfl) (fun vs H Q E h => ?_) (fun f cdv A outer s H vs Q E hr h => ?_)
  · obtain ⟨_, _, rfl, _⟩ := h
    rfl
  · obtain ⟨a, ns, rfl, hL, hl, q⟩ := h
    have nd : (["script", "m", "cell"] : List Str).Nodup := by decide +kernel
    have hu := hu_of hr
    refine ⟨_, pss_cons (ps_set (i := 1) nd rfl (.inl rfl) (pe_disp (pps_cons pe_str (pe_c c1 hr (by decide) (by rfl) (pa_cons (pv 0) pa_nil)) (pps_cons pe_str (pe_lst pa_nil) (pps_cons pe_str pe_int pps_nil))) (by rfl) (by rfl) (fun z => by cases z) (by decide)))
      (pss_cons (ps_dput hu (pv 1) pe_str (pe_lc (own := [("cell", 2)]) (g := gName 2) (tt := tYes) (by rfl) nd (pi_list (pv 0)) (blkOk_by (own := [("cell", 2)]) (N := ["script", "m", "cell"]) (sc := defScope s_L_begun) (by decide +kernel))
          (fun _ _ _ _ _ => pg_name (i := 2) nd rfl (.inl rfl)) (fun _ _ _ _ _ => pts_nil) (fun _ _ _ _ _ => pe_ifExp (pt_cmpR op_ge (pv 2) (pe_op op_pow pe_int pe_int) (nomark _)) (pv 2) pe_int)) rfl)
      (pss_one (ps_ret (pv 1)))), ?_⟩
    refine fun m nm => ⟨.ref a, rfl, a, ns, rfl, (same_upd nm).seq hL, hl, fun cl H1 cs s1 hcl ncl hcs => ?_⟩
    have hm1 : H1 m = some (.dK []) := s1 _ _ upd_same
    refine ⟨Nat.zero_le _, fun g0 ng0 => ?_⟩
    have s2 := same_upd (o := .lst []) ng0
    refine ⟨s2 _ _ hm1, [(Sum.inr "cells", .ref cl), (Sum.inr "great", .ref g0), (Sum.inr "spot", .int 0)], rfl, (by show 3 ≤ 15; decide), ?_⟩
    have eD : upd (upd H1 g0 (.lst [])) m (.dK (mergeK [] [(Sum.inr "cells", V.ref cl), (Sum.inr "great", .ref g0), (Sum.inr "spot", .int 0)])) = upd (upd H1 g0 (.lst [])) m (.dK [((Sum.inr "cells" : L2.Key), V.ref cl), (Sum.inr "great", .ref g0), (Sum.inr "spot", .int 0)]) := by
      congr 2
    rw [eD]
    generalize hH2 : upd (upd H1 g0 (.lst [])) m (.dK [((Sum.inr "cells" : L2.Key), V.ref cl), (Sum.inr "great", .ref g0), (Sum.inr "spot", .int 0)]) = H2
    have s3 : Same H H2 := fun x o e => by
      have e1 := s1 _ _ (same_upd (o := .dK []) nm _ _ e)
      rw [← hH2, upd_ne (ne_of_none e nm)]
      exact s2 _ _ e1
    have hm2 : H2 m = some (.dK [((Sum.inr "cells" : L2.Key), V.ref cl), (Sum.inr "great", .ref g0), (Sum.inr "spot", .int 0)]) := by rw [← hH2, upd_same]
    have hcl2 : H2 cl = some (.lst (cs.map V.int)) := by
      rw [← hH2, upd_ne (fun z => by rw [z, hm1] at hcl; cases hcl)]
      exact s2 _ _ hcl
    refine ⟨.ref a, rfl, a, rfl, ⟨_, s3.seq hL⟩, fun D nD => ?_⟩
    refine lc_list (xs := ns.map V.int) (fun i H3 => Same H H3 ∧ Same H2 H3 ∧ ∃ gs : List Int, H3 D = some (.lst (gs.map V.int)) ∧ gs.length = i) ⟨s3.trans (same_upd nD), same_upd nD, [], upd_same, rfl⟩ (fun i H3 _ z => z.1.seq hL) (fun i x H3 hx z => ?_) (fun H3 z => ?_)
    · obtain ⟨s4, s5, gs, eD3, el⟩ := z
      rw [List.getElem?_map] at hx
      cases h : ns[i]? with
      | none => rw [h] at hx; cases hx
      | some z =>
        rw [h] at hx
        obtain rfl : V.int z = x := Option.some.inj hx
        have hi : i < ns.length := (List.getElem?_eq_some_iff.mp h).1
        have step : ∀ v : Int, ∃ acc, H3 D = some (.lst acc) ∧ acc.length < sizeLine ∧ (Same H (upd H3 D (.lst (acc ++ [V.int v]))) ∧ Same H2 (upd H3 D (.lst (acc ++ [V.int v]))) ∧ ∃ gs : List Int, (upd H3 D (.lst (acc ++ [V.int v]))) D = some (.lst (gs.map V.int)) ∧ gs.length = i + 1) := fun v => by
          refine ⟨gs.map V.int, eD3, ?_, ?_, ?_, gs ++ [v], ?_, ?_⟩
          · rw [List.length_map]
            exact small1000 (by omega)
          · intro x o e
            rw [upd_ne (ne_of_none (s3 _ _ e) nD)]
            exact s4 _ _ e
          · intro x o e
            rw [upd_ne (ne_of_none e nD)]
            exact s5 _ _ e
          · rw [upd_same, List.map_append]; rfl
          · rw [List.length_append, el]; rfl
        refine ⟨rfl, .int z, rfl, 10, 18, rfl, rfl, ⟨by decide, by decide, by decide⟩, _, _, rfl, rfl, _, rfl, ?_⟩
        refine ite2 (fun _ => ⟨.int z, rfl, step z⟩) (fun _ => step 0)
    · obtain ⟨s4, s5, gs, eD3, el⟩ := z
      have hm3 := s5 _ _ hm2
      have mput := DPut.k (k := Sum.inr "great") (v := .ref D) hm3 (by show 3 < sizeLine; decide)
      refine ⟨.ref m, rfl, m, _, rfl, mput, ?_⟩
      have eE : upd H3 m (.dK (putK [((Sum.inr "cells" : L2.Key), V.ref cl), (Sum.inr "great", .ref g0), (Sum.inr "spot", .int 0)] (Sum.inr "great" : L2.Key) (.ref D))) = upd H3 m (.dK [((Sum.inr "cells" : L2.Key), V.ref cl), (Sum.inr "great", .ref D), (Sum.inr "spot", .int 0)]) := by
        congr 2
      have nmD : m ≠ D := ne_of_none hm2 nD
      have ncD : cl ≠ D := ne_of_none hcl2 nD
      have ncm : cl ≠ m := fun z => by rw [z, hm2] at hcl2; cases hcl2
      refine ⟨.ref m, rfl, q m cl D _ ?_ nm ?_ ⟨cs, gs, upd_same, ?_, hcs, ?_, ncD, ?_⟩⟩
      · intro x o e
        rw [upd_ne (ne_of_none e nm)]
        exact s4 _ _ e
      · cases e : H D with
        | none => rfl
        | some o => rw [s3 _ _ e] at nD; cases nD
      · rw [upd_ne ncm]
        exact s5 _ _ hcl2
      · rw [upd_ne (Ne.symm nmD)]
        exact eD3
      · rw [el, List.length_map]
        exact hl
end
end Bw
-- Bw7
set_option autoImplicit true
set_option maxRecDepth 512
set_option Elab.async false
set_option linter.all false
set_option maxHeartbeats 1000000
/-! Bw7: letters struck out; below, by a last letter. -/
namespace Bw
variable {S : Sys}
/-- from s, a word left of u when letters are struck out leads to x -/
def Sb (S : Sys) (u : List Nat) (s x : Row) : Prop := ∃ v, v.Sublist u ∧ pr S.w v s = x
theorem sb_nil {s x : Row} : Sb S [] s x ↔ s = x := by
  constructor
  · rintro ⟨v, hv, e⟩
    rw [List.sublist_nil.mp hv] at e
    exact e
  · intro e
    exact ⟨[], List.Sublist.refl _, e⟩
theorem sb_cons {a : Nat} {u : List Nat} {s x : Row} : Sb S (a :: u) s x ↔ Sb S u s x ∨ Sb S u (press S.w a s) x := by
  constructor
  · rintro ⟨v, hv, e⟩
    rcases List.sublist_cons_iff.mp hv with h | ⟨r, rfl, h⟩
    · exact .inl ⟨v, h, e⟩
    · exact .inr ⟨r, h, e⟩
  · rintro (⟨v, hv, e⟩ | ⟨v, hv, e⟩)
    · exact ⟨v, hv.cons a, e⟩
    · exact ⟨a :: v, hv.cons_cons a, e⟩
theorem sb_append {u v : List Nat} {s x : Row} : Sb S (u ++ v) s x ↔ ∃ t, Sb S u s t ∧ Sb S v t x := by
  constructor
  · rintro ⟨l, hl, e⟩
    obtain ⟨l1, l2, rfl, h1, h2⟩ := List.sublist_append_iff.mp hl
    rw [pr_append] at e
    exact ⟨_, ⟨l1, h1, rfl⟩, l2, h2, e⟩
  · rintro ⟨t, ⟨l1, h1, e1⟩, l2, h2, e2⟩
    refine ⟨l1 ++ l2, h1.append h2, ?_⟩
    rw [pr_append, e1, e2]
theorem sb_one {a : Nat} {s x : Row} : Sb S [a] s x ↔ x = s ∨ x = press S.w a s := by
  rw [sb_cons, sb_nil, sb_nil]
  constructor
  · rintro (h | h)
    · exact .inl h.symm
    · exact .inr h.symm
  · rintro (h | h)
    · exact .inl h.symm
    · exact .inr h.symm
/-- words of two letters are stretches -/
theorem two_alt {a b : Nat} (ha : a < S.n) (hb : b < S.n) : ∀ (v : List Nat) (s : Row), (∀ c ∈ v, c = a ∨ c = b) → ∃ j, j ≤ v.length ∧ (pr S.w v s = pr S.w (alt a b j) s ∨ pr S.w v s = pr S.w (alt b a j) s)
  | [], s, _ => ⟨0, Nat.le_refl _, .inl rfl⟩
  | c :: v, s, h => by
    obtain ⟨j, hj, e⟩ := two_alt ha hb v (press S.w c s) fun d hd => h d (List.mem_cons_of_mem _ hd)
    have key : ∀ x y, c = x → (y < S.n) → (x < S.n) → (pr S.w v (press S.w c s) = pr S.w (alt x y j) (press S.w c s) ∨ pr S.w v (press S.w c s) = pr S.w (alt y x j) (press S.w c s)) →
        ∃ i, i ≤ v.length + 1 ∧ (pr S.w v (press S.w c s) = pr S.w (alt x y i) s ∨ pr S.w v (press S.w c s) = pr S.w (alt y x i) s) := by
      intro x y hc hy hx e
      subst hc
      rcases e with e | e
      · cases j with
        | zero => exact ⟨1, by omega, .inl (e.trans rfl)⟩
        | succ j =>
          refine ⟨j, by omega, .inr ?_⟩
          rw [e]
          show pr S.w (alt y c j) (press S.w c (press S.w c s)) = _
          rw [press_press hx]
      · exact ⟨j + 1, by omega, .inl (e.trans rfl)⟩
    rcases h c List.mem_cons_self with hc | hc
    · exact key a b hc hb ha e
    · obtain ⟨i, hi, e2⟩ := key b a hc ha hb e.symm
      exact ⟨i, hi, e2.symm⟩
theorem alt_pre (a b : Nat) : ∀ {j m : Nat}, j ≤ m → (alt a b j).Sublist (alt a b m)
  | 0, _, _ => List.nil_sublist _
  | j + 1, 0, h => absurd h (by omega)
  | j + 1, m + 1, h => (alt_pre b a (j := j) (m := m) (by omega)).cons_cons a
theorem sb_alt {a b : Nat} (ha : a < S.n) (hb : b < S.n) (hab : a ≠ b) (hm : S.m a b ≠ 0) {s t : Row} : Sb S (alt a b (S.m a b)) s t ↔ ∃ j, j ≤ S.m a b ∧ (t = pr S.w (alt a b j) s ∨ t = pr S.w (alt b a j) s) := by
  constructor
  · rintro ⟨v, hv, rfl⟩
    obtain ⟨j, hj, e⟩ := two_alt ha hb v s fun c hc => alt_mem (hv.subset hc)
    have := hv.length_le
    rw [alt_length] at this
    exact ⟨j, by omega, e⟩
  · rintro ⟨j, hj, rfl | rfl⟩
    · exact ⟨_, alt_pre a b hj, rfl⟩
    · by_cases e : j = S.m a b
      · subst e
        exact ⟨_, List.Sublist.refl _, braid ha hb hab hm s⟩
      · obtain ⟨l, hl⟩ : ∃ l, S.m a b = l + 1 := ⟨S.m a b - 1, by omega⟩
        refine ⟨_, ?_, rfl⟩
        rw [hl]
        exact (alt_pre b a (by omega)).cons a
theorem sb_turn {a b : Nat} (ha : a < S.n) (hb : b < S.n) (hab : a ≠ b) (hm : S.m a b ≠ 0) (x : List Nat) (s t : Row) : Sb S (alt a b (S.m a b) ++ x) s t ↔ Sb S (alt b a (S.m a b) ++ x) s t := by
  have e := S.msymm ha hb hab
  have h1 : ∀ r, Sb S (alt a b (S.m a b)) s r ↔ Sb S (alt b a (S.m a b)) s r := fun r => by
    rw [sb_alt ha hb hab hm, show Sb S (alt b a (S.m a b)) s r = Sb S (alt b a (S.m b a)) s r by rw [e], sb_alt hb ha (Ne.symm hab) (by rw [← e]; exact hm), e]
    constructor
    · rintro ⟨j, hj, h⟩
      exact ⟨j, hj, h.symm⟩
    · rintro ⟨j, hj, h⟩
      exact ⟨j, hj, h.symm⟩
  rw [sb_append, sb_append]
  constructor
  · rintro ⟨r, h, h2⟩
    exact ⟨r, (h1 r).mp h, h2⟩
  · rintro ⟨r, h, h2⟩
    exact ⟨r, (h1 r).mpr h, h2⟩
/-- WHICHEVER SHORTEST WORD IS TAKEN -/
theorem sb_isW {k : Nat} {r : Row} {u v : List Nat} (hr : Reach S k r) (hu : IsW S r u) (hv : IsW S r v) (s t : Row) : Sb S u s t ↔ Sb S v s t :=
  matsumoto (S := S) (fun u v => ∀ s t, Sb S u s t ↔ Sb S v s t) (fun _ _ _ => Iff.rfl) (fun _ _ _ h1 h2 s t => (h1 s t).trans (h2 s t))
    (fun a u v _ h s t => by rw [sb_cons, sb_cons, h, h]) (fun a b x ha hb hab hm s t => sb_turn ha hb hab hm x s t) k r u v hr hu hv s t
theorem sb_red {u v : List Nat} (hu : Red S u) (hv : Red S v) (e : pr S.w u rho = pr S.w v rho) (s t : Row) : Sb S u s t ↔ Sb S v s t := by
  have h1 := hu.rev.isW
  have h2 := hv.rev.isW
  rw [List.reverse_reverse] at h1 h2
  rw [← row_rev hu.1 hv.1 e] at h2
  exact sb_isW hu.rev.2 h1 h2 s t
theorem red_of {k : Nat} {x : Row} (h : Reach S k x) : ∃ u, Red S u ∧ pr S.w u rho = x ∧ u.length = k := by
  obtain ⟨y, hy⟩ := h.isW
  exact ⟨y.reverse, hy.red h, hy.row.symm, by rw [List.length_reverse, hy.len h]⟩
theorem red_snoc {u : List Nat} {s : Nat} (h : Red S u) (hs : s < S.n) (hp : 0 < pr S.w u rho s) : Red S (u ++ [s]) := by
  refine ⟨fun a ha => ?_, ?_⟩
  · rcases List.mem_append.mp ha with z | z
    · exact h.1 a z
    · rw [List.mem_singleton.mp z]
      exact hs
  · rw [List.length_append, pr_append]
    exact h.2.up hs hp
/-- the shortest word of x with a last letter that is negative -/
theorem red_last {k : Nat} {x : Row} {s : Nat} (h : Reach S k x) (hs : s < S.n) (hn : x s < 0) : ∃ u, Red S u ∧ pr S.w u rho = press S.w s x ∧ Red S (u ++ [s]) ∧ pr S.w (u ++ [s]) rho = x := by
  obtain ⟨j, _, hj⟩ := h.dn hs hn
  obtain ⟨u, hu, e, _⟩ := red_of hj
  refine ⟨u, hu, e, red_snoc hu hs ?_, ?_⟩
  · rw [e, press_self hs]
    omega
  · rw [pr_append, e]
    exact press_press hs x
theorem exch_red {v : List Nat} {s : Nat} (hv : Red S v) (hs : s < S.n) (hn : pr S.w v rho s < 0) : Sb S v rho (press S.w s (pr S.w v rho)) := by
  obtain ⟨u, h1, e1, h2, e2⟩ := red_last hv.2 hs hn
  exact (sb_red h2 hv e2 rho _).mp ⟨u, List.sublist_append_left _ _, e1⟩
theorem shorten : ∀ (n : Nat) (v : List Nat), v.length ≤ n → (∀ a ∈ v, a < S.n) → ∃ q, q.Sublist v ∧ Red S q ∧ pr S.w q rho = pr S.w v rho := by
  intro n
  induction n with
  | zero =>
    intro v hv _
    have e : v = [] := List.length_eq_zero_iff.mp (by omega)
    subst e
    exact ⟨[], List.Sublist.refl _, ⟨fun _ h => absurd h List.not_mem_nil, .zero⟩, rfl⟩
  | succ n ih =>
    intro v hv hlt
    rcases List.eq_nil_or_concat v with e | ⟨v', a, e⟩
    · subst e
      exact ⟨[], List.Sublist.refl _, ⟨fun _ h => absurd h List.not_mem_nil, .zero⟩, rfl⟩
    · rw [List.concat_eq_append] at e
      subst e
      rw [List.length_append] at hv
      have hv' : v'.length ≤ n := by
        have : [a].length = 1 := rfl
        omega
      have ha : a < S.n := hlt a (List.mem_append_right _ List.mem_cons_self)
      obtain ⟨q, h1, h2, h3⟩ := ih v' hv' fun b hb => hlt b (List.mem_append_left _ hb)
      have er : pr S.w (v' ++ [a]) rho = press S.w a (pr S.w q rho) := by
        rw [pr_append, h3]
        rfl
      by_cases hn : pr S.w q rho a < 0
      · obtain ⟨p, hp, ep⟩ := exch_red h2 ha hn
        have hpl := hp.length_le
        have hql := h1.length_le
        obtain ⟨o, o1, o2, o3⟩ := ih p (by omega) fun b hb => h2.1 b (hp.subset hb)
        exact ⟨o, (o1.trans (hp.trans h1)).trans (List.sublist_append_left _ _), o2, by rw [o3, ep, er]⟩
      · refine ⟨q ++ [a], h1.append (List.Sublist.refl _), red_snoc h2 ha (h2.2.pos ha hn), ?_⟩
        rw [er, pr_append]
        rfl
/-- what is left of u goes down within u -/
theorem exch {u : List Nat} {x : Row} {s : Nat} (hu : ∀ a ∈ u, a < S.n) (hs : s < S.n) (h : Sb S u rho x) (hn : x s < 0) : Sb S u rho (press S.w s x) := by
  obtain ⟨v, hv, rfl⟩ := h
  obtain ⟨q, h1, h2, h3⟩ := shorten _ v (Nat.le_refl _) fun a ha => hu a (hv.subset ha)
  rw [← h3] at hn ⊢
  obtain ⟨p, hp, ep⟩ := exch_red h2 hs hn
  exact ⟨p, hp.trans (h1.trans hv), ep⟩
/-- the lower one of x and x pressed -/
def mn (S : Sys) (s : Nat) (x : Row) : Row := if x s < 0 then press S.w s x else x
theorem sb_reach {u : List Nat} {x : Row} (hu : ∀ a ∈ u, a < S.n) (h : Sb S u rho x) : ∃ j, Reach S j x := by
  obtain ⟨v, hv, rfl⟩ := h
  obtain ⟨j, hj, _⟩ := reach_pr (S := S) v (fun a ha => hu a (hv.subset ha)) Reach.zero
  exact ⟨j, hj⟩
/-- BY A LAST LETTER -/
theorem lift {u : List Nat} {x : Row} {s : Nat} (hu : ∀ a ∈ u, a < S.n) (hs : s < S.n) : Sb S (u ++ [s]) rho x ↔ Sb S u rho (mn S s x) := by
  rw [sb_append]
  unfold mn
  constructor
  · rintro ⟨t, h1, h2⟩
    rcases sb_one.mp h2 with e | e
    · subst e
      split
      · exact exch hu hs h1 (by assumption)
      · exact h1
    · subst e
      split
      · rw [press_press hs]
        exact h1
      · rename_i hn
        rw [press_self hs] at hn
        obtain ⟨j, hj⟩ := sb_reach hu h1
        have := hj.ne hs
        exact exch hu hs h1 (by omega)
  · split
    · intro h
      exact ⟨_, h, sb_one.mpr (.inr (press_press hs x).symm)⟩
    · intro h
      exact ⟨_, h, sb_one.mpr (.inl rfl)⟩
/-- x is y or stands below it -/
def Le (S : Sys) (x y : Row) : Prop := ∃ u, Red S u ∧ pr S.w u rho = y ∧ Sb S u rho x
theorem Le.of {u : List Nat} {x y : Row} (hu : Red S u) (e : pr S.w u rho = y) : Le S x y ↔ Sb S u rho x := by
  constructor
  · rintro ⟨v, hv, e2, h⟩
    exact (sb_red hv hu (e2.trans e.symm) rho x).mp h
  · intro h
    exact ⟨u, hu, e, h⟩
theorem le_last {k : Nat} {x y : Row} {s : Nat} (hy : Reach S k y) (hs : s < S.n) (hn : y s < 0) : Le S x y ↔ Le S (mn S s x) (press S.w s y) := by
  obtain ⟨u, h1, e1, h2, e2⟩ := red_last hy hs hn
  rw [Le.of h2 e2, Le.of h1 e1, lift h1.1 hs]
/-- the program's way: down the first letters of y -/
def un (S : Sys) : Nat → Row → Row → Row
  | 0, x, _ => x
  | k + 1, x, y => match bl S.n y with
    | [] => x
    | a :: _ => un S k (mn S a x) (press S.w a y)
theorem un_le : ∀ {k : Nat} {x y : Row}, Reach S k y → (un S k x y = rho ↔ Le S x y)
  | 0, x, y, hy => by
    have e := Reach.zero_iff.mp hy
    subst e
    rw [Le.of (S := S) (u := []) (x := x) (y := rho) ⟨fun _ h => absurd h List.not_mem_nil, .zero⟩ rfl, sb_nil]
    show x = rho ↔ rho = x
    exact eq_comm
  | k + 1, x, y, hy => by
    obtain ⟨a, l, e, ha, hn, hr, _⟩ := lw_step hy
    rw [le_last hy ha hn]
    show (match bl S.n y with | [] => x | a :: _ => un S k (mn S a x) (press S.w a y)) = rho ↔ _
    rw [e]
    exact un_le hr
theorem un_step {k : Nat} {x y : Row} {a : Nat} {l : List Nat} (e : bl S.n y = a :: l) : un S (k + 1) x y = un S k (mn S a x) (press S.w a y) := by
  show (match bl S.n y with | [] => x | a :: _ => un S k (mn S a x) (press S.w a y)) = _
  rw [e]
/-- WORDS GONE THE OTHER WAY -/
theorem le_rev1 {u v : List Nat} (hu : ∀ a ∈ u, a < S.n) (hv : ∀ a ∈ v, a < S.n) (h : Le S (pr S.w u rho) (pr S.w v rho)) : Le S (pr S.w u.reverse rho) (pr S.w v.reverse rho) := by
  obtain ⟨x, h1, e1, y, hy, ey⟩ := h
  have hyl : ∀ a ∈ y, a < S.n := fun a ha => h1.1 a (hy.subset ha)
  exact ⟨x.reverse, h1.rev, row_rev h1.1 hv e1, y.reverse, hy.reverse, row_rev hyl hu ey⟩
theorem le_rev {u v : List Nat} (hu : ∀ a ∈ u, a < S.n) (hv : ∀ a ∈ v, a < S.n) : Le S (pr S.w u.reverse rho) (pr S.w v.reverse rho) ↔ Le S (pr S.w u rho) (pr S.w v rho) := by
  constructor
  · intro h
    have := le_rev1 (fun a ha => hu a (List.mem_reverse.mp ha)) (fun a ha => hv a (List.mem_reverse.mp ha)) h
    rwa [List.reverse_reverse, List.reverse_reverse] at this
  · exact le_rev1 hu hv
end Bw
-- WmA
set_option autoImplicit true
set_option maxRecDepth 512
set_option Elab.async false
set_option linter.all false
set_option maxRecDepth 100000
set_option maxHeartbeats 1000000
/-! WmA: row_of, shortest_by, lasts, is_under, is_below. -/
namespace Bw
open PySem PySem.Spec PyProof.Rows L2 C8
/-! ### below, as the program tells it -/
theorem mn_reach {S : Sys} {j : Nat} {x : Row} {a : Nat} (h : Reach S j x) (ha : a < S.n) : ∃ i, Reach S i (mn S a x) := by
  unfold mn
  split
  · obtain ⟨i, _, hi⟩ := h.dn ha (by assumption)
    exact ⟨i, hi⟩
  · exact ⟨j, h⟩
theorem un_reach {S : Sys} : ∀ {k j : Nat} {x y : Row}, Reach S j x → Reach S k y → ∃ i, Reach S i (un S k x y)
  | 0, j, x, y, hx, _ => ⟨j, hx⟩
  | k + 1, j, x, y, hx, hy => by
    obtain ⟨a, l, e, ha, _, hr, _⟩ := lw_step hy
    obtain ⟨i, hi⟩ := mn_reach hx ha
    rw [un_step e]
    exact un_reach hi hr
def told (S : Sys) (k : Nat) (x y : Row) : Bool := decide ((List.range S.n).map (un S k x y) = (List.range S.n).map rho)
theorem range_inj {n : Nat} {r s : Row} (h : (List.range n).map r = (List.range n).map s) : ∀ i, i < n → r i = s i := fun i hi => by
  have e : ((List.range n).map r)[i]? = ((List.range n).map s)[i]? := by rw [h]
  rw [List.getElem?_map, List.getElem?_map, List.getElem?_range hi] at e
  exact Option.some.inj e
theorem told_iff {S : Sys} {k j : Nat} {x y : Row} (hx : Reach S j x) (hy : Reach S k y) : told S k x y = true ↔ Le S x y := by
  unfold told
  rw [decide_eq_true_iff, ← un_le hy]
  constructor
  · intro h
    obtain ⟨i, hi⟩ := un_reach hx hy
    exact row_ext hi Reach.zero (range_inj h)
  · intro h
    rw [h]
theorem told_eq {S : Sys} {k j k' j' : Nat} {x y x' y' : Row} (hx : Reach S j x) (hy : Reach S k y) (hx' : Reach S j' x') (hy' : Reach S k' y') (h : Le S x y ↔ Le S x' y') : told S k x y = told S k' x' y' := by
  have h1 := told_iff hx hy
  have h2 := told_iff hx' hy'
  cases e : told S k x y with
  | true => exact (h2.mpr (h.mp (h1.mp e))).symm
  | false =>
    cases e' : told S k' x' y' with
    | false => rfl
    | true =>
      rw [h1.mpr (h.mpr (h2.mp e'))] at e
      cases e
/-- how many letters a row's shortest words have -/
noncomputable def lvl (S : Sys) (xs : List V) : Nat := @dite _ (∃ j r, Reach S j r ∧ xs = rv S.n r) (Classical.propDecidable _) (fun h => Classical.choose h) fun _ => 0
theorem rv_inj {n : Nat} {r s : Row} (h : rv n r = rv n s) : ∀ i, i < n → r i = s i := fun i hi => by
  have e : (rv n r)[i]? = (rv n s)[i]? := by rw [h]
  rw [rv_at hi, rv_at hi] at e
  exact V.int.inj (Option.some.inj e)
theorem lvl_eq {S : Sys} {j : Nat} {r : Row} (h : Reach S j r) : lvl S (rv S.n r) = j := by
  have hx : ∃ i s, Reach S i s ∧ rv S.n r = rv S.n s := ⟨j, r, h, rfl⟩
  unfold lvl
  rw [dif_pos hx]
  obtain ⟨s, h1, h2⟩ := Classical.choose_spec hx
  have e : r = s := row_ext h h1 (rv_inj h2)
  subst e
  exact Reach.uniq h1 h
noncomputable def muU (S : Sys) (σ : L2.St) (H : Hp) : Nat := match σ[2]? with
  | some (some (V.ref p)) => (match H p with
    | some (.tup xs) => lvl S xs
    | _ => 0)
  | _ => 0
theorem muU_eq {S : Sys} {σ : L2.St} {H : Hp} {p : Addr} {j : Nat} {r : Row} (h1 : σ[2]? = some (some (V.ref p))) (h2 : H p = some (.tup (rv S.n r))) (h : Reach S j r) : muU S σ H = j := by
  unfold muU
  rw [h1]
  show (match H p with | some (.tup xs) => lvl S xs | _ => 0) = j
  rw [h2]
  exact lvl_eq h
section
variable {P : Program} {w : World} {K : PySem.W.Frag} {mg : Str → Option Value} {base : Heap} {C CC : Addr}
def spRowOf (K : PySem.W.Frag) (C : Addr) : Sp := fun vs H Q _ => ∃ (b a : Addr) (S : Sys) (u : List Nat), vs = [.ref b, .ref a] ∧ Bo K C H b S ∧ Wt S ∧ 1 ≤ S.n ∧ S.n ≤ 6 ∧ SqA K H a (wv u) ∧ u.length ≤ 60 ∧ (∀ l ∈ u, l < S.n) ∧ ∀ p' H', Same H H' → H' p' = some (.tup (rv S.n (pr S.w u rho))) → Q (.ref p') H'
theorem ok_row_of (G : GD K mg "row_of" s_row_of) (c1 : Cal P w K mg base 3 "need_word" (spNeedW K C) []) (c2 : Cal P w K mg base 6 "row_by" (spRowBy K C) []) : Cal P w K mg base 7 "row_of" (spRowOf K C) [] := by
  refine cal_of (N := ["bonds", "word"]) (ps := ["bonds", "word"]) G ⟨rfl, rfl, rfl, by decide +kernel, rfl, by decide +kernel, by decide +kernel⟩ (fun _ _ _ _ _ _ us hl => match us, hl with | [_, _], _ => rfl) (fun vs H Q E h => ?_) (fun f cdv A outer s H vs Q E hr h => ?_)
  · obtain ⟨a, _, _, _, rfl, _⟩ := h
    rfl
  · obtain ⟨b, a, S, u, rfl, hB, hW, h1, h6, hA, hl, hlt, q⟩ := h
    refine ⟨_, pss_cons (ps_expr (pe_c c1 hr (by decide) (by rfl) (pa_cons (pv 0) (pa_cons (pv 1) pa_nil)))) (pss_one (ps_ret (pe_c c2 hr (by decide) (by rfl) (pa_cons (pv 0) (pa_cons (pv 1) pa_nil))))), ?_⟩
    exact ⟨.ref b, rfl, .ref a, rfl, b, a, S, u, rfl, hB, h6, hA, hl, hlt, fun H1 s1 => ⟨.ref b, rfl, .ref a, rfl, b, a, S, u, rfl, hB.same s1, hW, h1, h6, hA.same s1, hlt, fun p' H' s2 hp => q p' H' (Same.trans s1 s2) hp⟩⟩
def spLasts (K : PySem.W.Frag) (C : Addr) : Sp := fun vs H Q _ => ∃ (b a : Addr) (S : Sys) (u : List Nat), vs = [.ref b, .ref a] ∧ Bo K C H b S ∧ Wt S ∧ 1 ≤ S.n ∧ S.n ≤ 6 ∧ SqA K H a (wv u) ∧ u.length ≤ 60 ∧ (∀ l ∈ u, l < S.n) ∧ ∀ p' H', Same H H' → SqT K H' p' (wv (bl S.n (pr S.w u rho))) → Q (.ref p') H'
theorem ok_lasts (G : GD K mg "lasts" s_lasts) (c1 : Cal P w K mg base 7 "row_of" (spRowOf K C) []) (c2 : Cal P w K mg base 1 "below" (spBelow K) []) : Cal P w K mg base 8 "lasts" (spLasts K C) [] := by
  refine cal_of (N := ["bonds", "word"]) (ps := ["bonds", "word"]) G ⟨rfl, rfl, rfl, by decide +kernel, rfl, by decide +kernel, by decide +kernel⟩ (fun _ _ _ _ _ _ us hl => match us, hl with | [_, _], _ => rfl) (fun vs H Q E h => ?_) (fun f cdv A outer s H vs Q E hr h => ?_)
  · obtain ⟨a, _, _, _, rfl, _⟩ := h
    rfl
  · obtain ⟨b, a, S, u, rfl, hB, hW, h1, h6, hA, hl, hlt, q⟩ := h
    refine ⟨_, pss_one (ps_ret (pe_c c2 hr (by decide) (by rfl) (pa_cons (pe_c c1 hr (by decide) (by rfl) (pa_cons (pv 0) (pa_cons (pv 1) pa_nil))) pa_nil))), ?_⟩
    exact ⟨.ref b, rfl, .ref a, rfl, b, a, S, u, rfl, hB, hW, h1, h6, hA, hl, hlt, fun p' H1 s1 hp => ⟨p', S.n, _, rfl, h6, SqT.of hp, fun p2 H2 s2 hp2 => q p2 H2 (Same.trans s1 s2) hp2⟩⟩
def spShB (K : PySem.W.Frag) (C : Addr) : Sp := fun vs H Q _ => ∃ (b a : Addr) (S : Sys) (u : List Nat) (k : Nat), vs = [.ref b, .ref a] ∧ Bo K C H b S ∧ Wt S ∧ 1 ≤ S.n ∧ S.n ≤ 6 ∧ SqA K H a (wv u) ∧ (∀ l ∈ u, l < S.n) ∧ Reach S k (pr S.w u.reverse rho) ∧ k ≤ 59 ∧
  ∀ p' H', Same H H' → SqT K H' p' (wv (lw S k (pr S.w u.reverse rho))) → Q (.ref p') H'
theorem ok_shb (G : GD K mg "shortest_by" s_shortest_by) (c1 : Cal P w K mg base 6 "row_by" (spRowBy K C) []) (c2 : Cal P w K mg base 6 "undone" (spUndone K C) []) (m1 : mg "tuple" = none) : Cal P w K mg base 7 "shortest_by" (spShB K C) [] := by
  refine cal_of (N := ["bonds", "word"]) (ps := ["bonds", "word"]) G ⟨rfl, rfl, rfl, by decide +kernel, rfl, by decide +kernel, by decide +kernel⟩ (fun _ _ _ _ _ _ us hl => match us, hl with | [_, _], _ => rfl) (fun vs H Q E h => ?_) (fun f cdv A outer s H vs Q E hr h => ?_)
  · obtain ⟨a, _, _, _, _, rfl, _⟩ := h
    rfl
  · obtain ⟨b, a, S, u, k, rfl, hB, hW, h1, h6, hA, hlt, hre, hk, q⟩ := h
    refine ⟨_, pss_one (ps_ret (pe_c c2 hr (by decide) (by rfl) (pa_cons (pv 0) (pa_cons (pe_c c1 hr (by decide) (by rfl) (pa_cons (pv 0) (pa_cons (pe_revT (pe_callTy call_tupOf (by rfl) m1 boot_tuple (pa_cons (pv 1) pa_nil))) pa_nil))) pa_nil)))), ?_⟩
    refine ⟨.ref b, rfl, .ref b, rfl, .ref a, rfl, a, wv u, rfl, ?_⟩
    have rest : ∀ (t p : Addr) (H1 : Hp), Same H H1 → H1 p = none → spRowBy K C [.ref b, .ref p] (upd H1 p (.tup (wv u).reverse)) (fun v H2 => spUndone K C [.ref b, v] H2 Q E) E := fun t p H1 s1 np => by
      have s2 := Same.trans s1 (same_upd (o := .tup (wv u).reverse) np)
      exact ⟨b, p, S, u.reverse, rfl, hB.same s2, hW, h1, h6, .inr (.inl (.inl (by rw [upd_same, wv_rev]))), fun l hl => hlt l (List.mem_reverse.mp hl), fun p' H' s3 hp' => ⟨b, p', S, k, _, rfl, hB.same (Same.trans s2 s3), hW, h1, h6, SqT.of hp', hre, hk, fun p2 H2 s4 hp2 => q p2 H2 (Same.trans s2 (Same.trans s3 s4)) hp2⟩⟩
    rcases hA with h | h
    · exact .inl ⟨h, fun l nl => ⟨l, wv u, rfl, .inl (.inl upd_same), fun p np => rest l p _ (same_upd nl) np⟩⟩
    · exact .inr ⟨h, a, wv u, rfl, h, fun p np => rest a p H (fun _ _ e => e) np⟩
/-- is_under -/
def spUnder (K : PySem.W.Frag) (C : Addr) : Sp := fun vs H Q _ => ∃ (b p1 p2 : Addr) (S : Sys) (k : Nat) (x y : Row), vs = [.ref b, .ref p1, .ref p2] ∧ Bo K C H b S ∧ Wt S ∧ 1 ≤ S.n ∧ S.n ≤ 6 ∧ H p1 = some (.tup (rv S.n x)) ∧ H p2 = some (.tup (rv S.n y)) ∧ Reach S k y ∧
  ∀ H', Same H H' → Q (.bl (told S k x y)) H'
def UnI (S : Sys) (b : Addr) (k : Nat) (x y : Row) (H : Hp) (σ : L2.St) (H2 : Hp) : Prop := ∃ (j : Nat) (x' y' : Row) (q1 q2 : Addr) (y3 : Option V), σ = [some (.ref b), some (.ref q1), some (.ref q2), y3] ∧ Same H H2 ∧ Reach S j y' ∧ un S j x' y' = un S k x y ∧ H2 q1 = some (.tup (rv S.n x')) ∧ H2 q2 = some (.tup (rv S.n y'))
theorem ok_under (G : GD K mg "is_under" s_is_under) (c1 : Cal P w K mg base 1 "below" (spBelow K) []) (c2 : Cal P w K mg base 5 "pressed" (spPressed K C) []) (c3 : Cal P w K mg base 3 "start" (spStart K C) []) : Cal P w K mg base 6 "is_under" (spUnder K C) [] := by
  refine cal_of (N := ["bonds", "one", "other", "letter"]) (ps := ["bonds", "one", "other"]) G ⟨rfl, rfl, rfl, by decide +kernel, rfl, by decide +kernel, by decide +kernel⟩ (fun _ _ _ _ _ _ us hl => match us, hl with | [_, _, _], _ => rfl) (fun vs H Q E h => ?_) (fun f cdv A outer s H vs Q E hr h => ?_)
  · obtain ⟨_, _, _, _, _, _, _, rfl, _⟩ := h
    rfl
  · obtain ⟨b, p1, p2, S, k, x, y, rfl, hB, hW, h1, h6, hp1, hp2, hre, q⟩ := h
    have nd : (["bonds", "one", "other", "letter"] : List Str).Nodup := by decide +kernel
    refine ⟨_, pss_cons (ps_while PassesOwn.never (pt_cmpR (op_neD hr.units) (pe_c c1 hr (by decide) (by rfl) (pa_cons (pv 2) pa_nil)) (pe_tup pa_nil) (nomark _))
        (pss_cons (ps_set (i := 3) nd rfl (.inl rfl) (pe_ix ix_tup (pe_c c1 hr (by decide) (by rfl) (pa_cons (pv 2) pa_nil)) pe_int (fun _ _ => rfl)))
        (pss_cons (ps_if (pt_cmpR op_lt (pe_ix ix_tup (pv 1) (pe_op op_sub (pv 3) pe_int) (fun _ _ => rfl)) pe_int (nomark _)) (pss_one (ps_set (i := 1) nd rfl (.inl rfl) (pe_c c2 hr (by decide) (by rfl) (pa_cons (pv 0) (pa_cons (pv 1) (pa_cons (pv 3) pa_nil)))))) pss_nil)
        (pss_one (ps_set (i := 2) nd rfl (.inl rfl) (pe_c c2 hr (by decide) (by rfl) (pa_cons (pv 0) (pa_cons (pv 2) (pa_cons (pv 3) pa_nil)))))))))
      (pss_one (ps_ret (pe_cmpR (op_eqD hr.units) (pv 1) (pe_c c3 hr (by decide) (by rfl) (pa_cons (pv 0) pa_nil)) (nomark _)))), ?_⟩
    refine while_by (UnI S b k x y H) (muU S) ⟨k, x, y, p1, p2, _, rfl, fun _ _ e => e, hre, rfl, hp1, hp2⟩ (fun σ H2 z => ?_) (fun σ H Q Q' hm z => ?_)
    · obtain ⟨j, x', y', q1, q2, y3, rfl, s2, hj, eu, hq1, hq2⟩ := z
      refine ⟨.ref q2, rfl, q2, S.n, y', rfl, h6, SqT.of hq2, fun p3 H3 s3 hp3 => ⟨Nat.zero_le _, fun t ht => ?_⟩⟩
      have s4 := Same.trans s3 (same_upd (o := .tup []) ht)
      refine ⟨_, _, dp_tup (ns := (bl S.n y').map fun (l : Nat) => ((l : Nat) + 1 : Int)) (by rw [← wv_ints]; exact Same.tup (same_upd ht) hp3), dp_tup (ns := []) (.inl (.inl upd_same)), shaped_ints _, shaped_ints _, _, rfl, ?_⟩
      rw [eqv_ints]
      cases j with
      | succ j =>
        obtain ⟨a, l, eb, ha, hn, hr', _⟩ := lw_step hj
        rw [eb]
        rw [show (!decide (List.map (fun (l : Nat) => ((l : Nat) + 1 : Int)) (a :: l) = [])) = true from rfl]
        have hq1' := s4 _ _ hq1
        have hq2' := s4 _ _ hq2
        generalize upd H3 t (.tup []) = H4 at s4 hq1' hq2'
        refine ⟨.ref q2, rfl, q2, S.n, y', rfl, h6, SqT.of hq2', fun p5 H5 s5 hp5 => ?_⟩
        rw [eb] at hp5
        have s45 := Same.trans s2 (Same.trans s4 s5)
        have f1 := s5 _ _ hq1'
        have f2 := s5 _ _ hq2'
        refine ⟨p5, _, 0, _, rfl, rfl, hp5, atI_nat (j := 0) rfl, ?_⟩
        refine ⟨.ref q1, rfl, .int ((a : Nat) + 1), rfl, _, 1, rfl, rfl, q1, _, _, _, rfl, rfl, SqT.of f1, atI_nat' (by omega) (rv_at ha), ?_⟩
        refine ⟨x' a, 0, rfl, rfl, _, rfl, ?_⟩
        by_cases hx : x' a < 0
        · rw [decide_eq_true hx]
          refine ⟨.ref b, rfl, .ref q1, rfl, .int ((a : Nat) + 1), rfl, b, q1, S, x', a, rfl, hB.same s45, hW, h6, SqT.of f1, ha, fun q3 H6 s6 hq3 => ?_⟩
          refine ⟨.ref b, rfl, .ref q2, rfl, .int ((a : Nat) + 1), rfl, b, q2, S, y', a, rfl, hB.same (Same.trans s45 s6), hW, h6, SqT.of (s6 _ _ f2), ha, fun q4 H7 s7 hq4 => ?_⟩
          refine ⟨⟨j, mn S a x', press S.w a y', q3, q4, _, rfl, Same.trans s45 (Same.trans s6 s7), hr', by rw [← un_step eb]; exact eu, ?_, hq4⟩, ?_⟩
          · unfold mn
            rw [if_pos hx]
            exact s7 _ _ hq3
          · rw [muU_eq rfl hq4 hr', muU_eq rfl hq2 hj]
            omega
        · rw [decide_eq_false hx]
          refine ⟨.ref b, rfl, .ref q2, rfl, .int ((a : Nat) + 1), rfl, b, q2, S, y', a, rfl, hB.same s45, hW, h6, SqT.of f2, ha, fun q4 H7 s7 hq4 => ?_⟩
          refine ⟨⟨j, mn S a x', press S.w a y', q1, q4, _, rfl, Same.trans s45 s7, hr', by rw [← un_step eb]; exact eu, ?_, hq4⟩, ?_⟩
          · unfold mn
            rw [if_neg hx]
            exact s7 _ _ f1
          · rw [muU_eq rfl hq4 hr', muU_eq rfl hq2 hj]
            omega
      | zero =>
        rw [(bl_nil hj).mpr rfl]
        rw [show (!decide (List.map (fun (l : Nat) => ((l : Nat) + 1 : Int)) [] = [])) = false from rfl]
        refine ⟨.ref q1, rfl, .ref b, rfl, b, S, rfl, hB.same (Same.trans s2 s4), h1, h6, fun p9 H9 s9 hp9 => ?_⟩
        refine ⟨_, _, dp_tup (ns := (List.range S.n).map x') (by rw [← rv_ints]; exact SqT.of (s9 _ _ (s4 _ _ hq1))), dp_tup (ns := (List.range S.n).map rho) (by rw [← rv_ints]; exact SqT.of hp9), shaped_ints _, shaped_ints _, ?_⟩
        rw [eqv_ints]
        have ex : x' = un S k x y := eu
        rw [ex]
        exact q _ (Same.trans s2 (Same.trans s4 s9))
    · obtain ⟨x, e, p', n', r', e1, h6', hp', q'⟩ := z
      refine ⟨x, e, p', n', r', e1, h6', hp', fun a H1 s1 h1 => ?_⟩
      obtain ⟨l0, g2⟩ := q' a H1 s1 h1
      refine ⟨l0, fun t ht => ?_⟩
      obtain ⟨d, e2, a1, a2, a3, a4, c, ec, g3⟩ := g2 t ht
      exact ⟨d, e2, a1, a2, a3, a4, c, ec, hm _ _ g3⟩
def spIsBelow (K : PySem.W.Frag) (C : Addr) : Sp := fun vs H Q _ => ∃ (b a c : Addr) (S : Sys) (u v : List Nat) (k : Nat), vs = [.ref b, .ref a, .ref c] ∧ Bo K C H b S ∧ Wt S ∧ 1 ≤ S.n ∧ S.n ≤ 6 ∧ SqA K H a (wv u) ∧ SqA K H c (wv v) ∧ u.length ≤ 60 ∧ v.length ≤ 60 ∧ (∀ l ∈ u, l < S.n) ∧ (∀ l ∈ v, l < S.n) ∧ Reach S k (pr S.w v rho) ∧
  ∀ H', Same H H' → Q (.bl (told S k (pr S.w u rho) (pr S.w v rho))) H'
theorem ok_is_below (G : GD K mg "is_below" s_is_below) (c1 : Cal P w K mg base 3 "need_word" (spNeedW K C) []) (c2 : Cal P w K mg base 6 "row_by" (spRowBy K C) []) (c3 : Cal P w K mg base 6 "is_under" (spUnder K C) []) : Cal P w K mg base 7 "is_below" (spIsBelow K C) [] := by
  refine cal_of (N := ["bonds", "one", "other"]) (ps := ["bonds", "one", "other"]) G ⟨rfl, rfl, rfl, by decide +kernel, rfl, by decide +kernel, by decide +kernel⟩ (fun _ _ _ _ _ _ us hl => match us, hl with | [_, _, _], _ => rfl) (fun vs H Q E h => ?_) (fun f cdv A outer s H vs Q E hr h => ?_)
  · obtain ⟨_, _, _, _, _, _, _, rfl, _⟩ := h
    rfl
  · obtain ⟨b, a, c, S, u, v, k, rfl, hB, hW, h1, h6, hA, hC, hul, hvl, hu, hv, hre, q⟩ := h
    refine ⟨_, pss_cons (ps_expr (pe_c c1 hr (by decide) (by rfl) (pa_cons (pv 0) (pa_cons (pv 1) pa_nil)))) (pss_cons (ps_expr (pe_c c1 hr (by decide) (by rfl) (pa_cons (pv 0) (pa_cons (pv 2) pa_nil))))
      (pss_one (ps_ret (pe_c c3 hr (by decide) (by rfl) (pa_cons (pv 0) (pa_cons (pe_c c2 hr (by decide) (by rfl) (pa_cons (pv 0) (pa_cons (pv 1) pa_nil))) (pa_cons (pe_c c2 hr (by decide) (by rfl) (pa_cons (pv 0) (pa_cons (pv 2) pa_nil))) pa_nil))))))), ?_⟩
    refine ⟨.ref b, rfl, .ref a, rfl, b, a, S, u, rfl, hB, h6, hA, hul, hu, fun H1 s1 => ⟨.ref b, rfl, .ref c, rfl, b, c, S, v, rfl, hB.same s1, h6, hC.same s1, hvl, hv, fun H2 s2 => ?_⟩⟩
    have s12 := Same.trans s1 s2
    refine ⟨.ref b, rfl, .ref b, rfl, .ref a, rfl, b, a, S, u, rfl, hB.same s12, hW, h1, h6, hA.same s12, hu, fun p1 H3 s3 hp1 => ?_⟩
    have s13 := Same.trans s12 s3
    refine ⟨.ref b, rfl, .ref c, rfl, b, c, S, v, rfl, hB.same s13, hW, h1, h6, hC.same s13, hv, fun p2 H4 s4 hp2 => ?_⟩
    have s14 := Same.trans s13 s4
    exact ⟨b, p1, p2, S, k, _, _, rfl, hB.same s14, hW, h1, h6, s4 _ _ hp1, hp2, hre, fun H5 s5 => q H5 (Same.trans s14 s5)⟩
end
end Bw
-- SetB1
set_option autoImplicit true
set_option maxRecDepth 512
set_option Elab.async false
set_option linter.all false
set_option maxRecDepth 100000
set_option maxHeartbeats 1000000
set_option exponentiation.threshold 1000
/-! SetB1: tables of sets up to 512 slots: each slot is met, one put in, all laid anew. -/
namespace Bw
open PySem PySem.Spec PyProof.Rows L2
/-- the masks that come -/
def BM (m : Nat) : Prop := MaskOk m ∨ m = 511
theorem BM.odd {m : Nat} (h : BM m) : m % 2 = 1 := by
  rcases h with h | h
  · exact mask_odd h
  · subst h
    rfl
theorem BM.le {m : Nat} (h : BM m) : m ≤ 511 := by
  rcases h with (h | h | h) | h <;> omega
/-! ### the round of 512 -/
def seenBits (l : List Nat) (z : Nat) : Nat := l.foldl (fun z k => z ||| 2 ^ lcgN 511 k) z
theorem seenBits_bit (j : Nat) : ∀ (l : List Nat) (z : Nat), (seenBits l z).testBit j = true → z.testBit j = true ∨ ∃ k ∈ l, lcgN 511 k = j
  | [], _, h => .inl h
  | k :: l, z, h => by
    rcases seenBits_bit j l _ (show (seenBits l (z ||| 2 ^ lcgN 511 k)).testBit j = true from h) with q | ⟨b, hb, e⟩
    · rw [Nat.testBit_or, Nat.testBit_two_pow, Bool.or_eq_true] at q
      rcases q with q | q
      · exact .inl q
      · exact .inr ⟨k, List.mem_cons_self, of_decide_eq_true q⟩
    · exact .inr ⟨b, List.mem_cons_of_mem _ hb, e⟩
theorem round_all : seenBits (List.range 512) 0 = 2 ^ 512 - 1 := by decide +kernel
theorem round_end : lcgN 511 512 = 0 := by decide +kernel
theorem round_at {j : Nat} (hj : j ≤ 511) : ∃ b, b ≤ 511 ∧ lcgN 511 b = j := by
  have h : (seenBits (List.range 512) 0).testBit j = true := by
    rw [round_all, Nat.testBit_two_pow_sub_one]
    exact decide_eq_true (by omega)
  rcases seenBits_bit j _ _ h with q | ⟨b, hb, e⟩
  · rw [Nat.zero_testBit] at q
    cases q
  · have := List.mem_range.mp hb
    exact ⟨b, by omega, e⟩
theorem round_mod : ∀ k, lcgN 511 (512 + k) = lcgN 511 k
  | 0 => round_end
  | k + 1 => by
    show (lcgN 511 (512 + k) * 5 + 1) % 512 = _
    rw [round_mod k]
    rfl
theorem BM.all {m : Nat} (h : BM m) {i j : Nat} (hi : i ≤ m) (hj : j ≤ m) : ∃ k, k ≤ m ∧ lcgI m i k = j := by
  rcases h with h | h
  · exact lcgI_all h hi hj
  · subst h
    obtain ⟨a, a1, a2⟩ := round_at hi
    obtain ⟨b, b1, b2⟩ := round_at hj
    subst a2 b2
    by_cases c : a ≤ b
    · exact ⟨b - a, by omega, by rw [lcgN_add, show a + (b - a) = b by omega]⟩
    · exact ⟨b + 512 - a, by omega, by rw [lcgN_add, show a + (b + 512 - a) = 512 + b by omega, round_mod]⟩
theorem BM.run {m : Nat} (h : BM m) (x : Int) {j : Nat} (hj : j ≤ m) : ∃ n, n ≤ m + 12 ∧ runI m (SetTable.bits x) n = j := by
  obtain ⟨k, h1, h2⟩ := h.all (runI_le m (SetTable.bits x) 12) hj
  refine ⟨12 + k, by omega, ?_⟩
  rw [runI_tail (bits_lt x), h2]
theorem BM.met {m : Nat} (h : BM m) (x : Int) {j : Nat} (hj : j ≤ m) : ∃ k, k < 10 * SetTable.turns m ∧ way m x k = j := by
  obtain ⟨n, h1, h2⟩ := h.run x hj
  obtain ⟨k, h3, h4⟩ := run_nth m (SetTable.bits x) n
  refine ⟨k, by unfold SetTable.turns; omega, ?_⟩
  show (nth m _ k).j = j
  rw [h4, ← h2]
  rfl
theorem way_in (m : Nat) (x : Int) (k : Nat) : way m x k ≤ m := by
  have hi : SetTable.bits x % (m + 1) ≤ m := Nat.le_of_lt_succ (Nat.mod_lt _ (Nat.succ_pos m))
  have b := runEnd_bd hi
  have q := nth_in (m := m) k (runAt m (SetTable.bits x % (m + 1)) (SetTable.bits x)) (by show SetTable.bits x % (m + 1) + (SetTable.runEnd m (SetTable.bits x % (m + 1)) - SetTable.bits x % (m + 1)) ≤ m; omega)
  exact Nat.le_trans (Nat.le_add_right _ _) q
/-! ### a table -/
/-- the table of these hashes: each is found on its way -/
structure TB (t : SetTable) (hs : List Int) : Prop where
  up : Ris t.place.toList
  nod : t.dummies = #[]
  len : t.place.size = hs.length
  bm : BM t.mask
  on : ∀ (i : Nat) (x : Int) (j : Nat), hs[i]? = some x → t.place.toList[i]? = some j → ∃ k, way t.mask x k = j ∧ ∀ q, q < k → way t.mask x q ∈ t.place.toList
theorem TB.lenL {t : SetTable} {hs : List Int} (T : TB t hs) : t.place.toList.length = hs.length := by rw [Array.length_toList, T.len]
/-- the first free slot on a way -/
theorem TB.free {t : SetTable} {hs : List Int} (T : TB t hs) (hl : hs.length ≤ t.mask) (x : Int) : ∃ K, K < 10 * SetTable.turns t.mask ∧ way t.mask x K ∉ t.place.toList ∧ ∀ k, k < K → way t.mask x k ∈ t.place.toList := by
  obtain ⟨j, j1, j2⟩ := st_missing t.place.toList (t.mask + 1) (by have := T.lenL; omega)
  obtain ⟨k, k1, k2⟩ := T.bm.met x (Nat.le_of_lt_succ j1)
  subst k2
  obtain ⟨K, h1, h2, h3⟩ := st_least (p := fun k => way t.mask x k ∉ t.place.toList) k j2
  exact ⟨K, by omega, h2, fun q hq => Classical.not_not.mp (h3 q hq)⟩
/-- what stands in the table stands before the free slot -/
theorem TB.pre {t : SetTable} {hs : List Int} (T : TB t hs) {x : Int} {K i j : Nat} (hK : way t.mask x K ∉ t.place.toList) (hi : hs[i]? = some x) (hj : t.place.toList[i]? = some j) : ∃ k, k < K ∧ way t.mask x k = j := by
  obtain ⟨k, e, b⟩ := T.on i x j hi hj
  refine ⟨k, Nat.lt_of_not_le fun c => ?_, e⟩
  rcases Nat.eq_or_lt_of_le c with c | c
  · subst c
    rw [e] at hK
    exact hK (List.mem_of_getElem? hj)
  · exact hK (b K c)
/-- one more -/
theorem TB.add {t : SetTable} {hs : List Int} (T : TB t hs) {x : Int} {K p : Nat} (hK : way t.mask x K ∉ t.place.toList) (hb : ∀ k, k < K → way t.mask x k ∈ t.place.toList) (hp : SetTable.below t.place (way t.mask x K) = p) :
    p ≤ hs.length ∧ TB (t.put (way t.mask x K)).1 (hs.take p ++ x :: hs.drop p) ∧ (t.put (way t.mask x K)).1.fill = hs.length + 1 := by
  generalize ej : way t.mask x K = j at hK hp ⊢
  have c := below_cut T.up j
  rw [hp] at c
  have ple : p ≤ t.place.toList.length := by rw [Array.length_toList]; exact c.1
  have hph : p ≤ hs.length := by rw [← T.lenL]; exact ple
  have epl : (t.put j).1.place.toList = t.place.toList.take p ++ j :: t.place.toList.drop p := by rw [← hp]; exact put_place t j
  have esz : (t.put j).1.place.size = hs.length + 1 := by rw [← Array.length_toList, epl, len_ins _ ple, T.lenL]
  have old : ∀ {y : Nat}, y ∈ t.place.toList → y ∈ (t.put j).1.place.toList := fun h => by rw [epl]; exact mem_ins.mpr (.inr h)
  refine ⟨hph, ⟨?_, put_dm T.nod j, by rw [esz, len_ins _ hph], T.bm, ?_⟩, ?_⟩
  · show Ris (t.put j).1.place.toList
    have z := ris_insert T.up (j := j) fun e => hK (List.mem_of_getElem? (by rw [Array.getElem?_toList]; exact e))
    exact z
  · intro i y q h1 h2
    show ∃ k, way t.mask y k = q ∧ ∀ q', q' < k → way t.mask y q' ∈ (t.put j).1.place.toList
    rw [tins_get hs hph] at h1
    rw [epl, tins_get _ ple] at h2
    by_cases c1 : i = p
    · subst c1
      rw [if_neg (Nat.lt_irrefl _), if_pos rfl] at h1 h2
      cases h1
      cases h2
      exact ⟨K, ej, fun k hk => old (hb k hk)⟩
    · obtain ⟨i', h1', h2'⟩ : ∃ i', hs[i']? = some y ∧ t.place.toList[i']? = some q := by
        by_cases c2 : i < p
        · rw [if_pos c2] at h1 h2
          exact ⟨i, h1, h2⟩
        · rw [if_neg c2, if_neg c1] at h1 h2
          exact ⟨i - 1, h1, h2⟩
      obtain ⟨k, e, z⟩ := T.on i' y q h1' h2'
      exact ⟨k, e, fun k' hk => old (z k' hk)⟩
  · show (t.put j).1.place.size + (t.put j).1.dummies.size = _
    rw [esz, put_dm T.nod j]
    rfl
/-! ### laid anew -/
theorem own_free {m : Nat} (h : BM m) (owner : Array (Option Nat)) (x : Int) {j : Nat} (hj : j ≤ m) (hf : oAt owner j = none) :
    ∃ K, SetTable.layClean.free m owner (SetTable.turns m) (SetTable.bits x % (m + 1)) (SetTable.bits x) = some (way m x K) ∧ oAt owner (way m x K) = none ∧ ∀ k, k < K → oAt owner (way m x k) ≠ none := by
  obtain ⟨n, n1, n2⟩ := h.run x hj
  have e0 : way m x (off m (SetTable.bits x % (m + 1)) (SetTable.bits x) n) = j := by
    show (nth m _ _).j = j
    rw [nth_off, itL_run]
    exact n2
  obtain ⟨K, k1, k2, k3⟩ := st_least (p := fun k => oAt owner (way m x k) = none) _ (show oAt owner (way m x (off m (SetTable.bits x % (m + 1)) (SetTable.bits x) n)) = none by rw [e0]; exact hf)
  refine ⟨K, free_spec m owner _ n _ _ K (by unfold SetTable.turns; omega) k1 (fun k hk => ?_) ?_, k2, k3⟩
  · have z := k3 k hk
    cases q : oAt owner (nth m (runAt m (SetTable.bits x % (m + 1)) (SetTable.bits x)) k).j with
    | some _ => rfl
    | none => exact absurd q z
  · rw [show oAt owner (nth m (runAt m (SetTable.bits x % (m + 1)) (SetTable.bits x)) K).j = none from k2]
    rfl
theorem own_next {m : Nat} (hm : BM m) {done : List Int} {owner : Array (Option Nat)} (W : Own m done owner) (hl : done.length ≤ m) (x : Int) :
    ∃ j, SetTable.layClean.free m owner (SetTable.turns m) (SetTable.bits x % (m + 1)) (SetTable.bits x) = some j ∧ Own m (done ++ [x]) (owner.setIfInBounds j (some done.length)) := by
  obtain ⟨ps, p1, p2⟩ := W.ps
  obtain ⟨j0, a1, a2⟩ := st_missing ps (m + 1) (by omega)
  have a3 : oAt owner j0 = none := Classical.not_not.mp fun z => a2 (p2 j0 (Nat.le_of_lt_succ a1) z)
  obtain ⟨K, b1, b2, b3⟩ := own_free hm owner x (Nat.le_of_lt_succ a1) a3
  have jm := way_in m x K
  generalize ej : way m x K = j at b1 b2 jm
  have js : j < owner.size := by rw [W.sz]; omega
  have self := oAt_set_self (some done.length) js
  have other : ∀ {i : Nat}, i ≠ j → oAt (owner.setIfInBounds j (some done.length)) i = oAt owner i := fun h => oAt_set_ne _ h
  have keep : ∀ i, oAt owner i ≠ none → oAt (owner.setIfInBounds j (some done.length)) i ≠ none := fun i hi => by
    by_cases c : i = j
    · subst c
      exact absurd b2 hi
    · rw [other c]
      exact hi
  refine ⟨j, b1, ⟨by rw [Array.size_setIfInBounds, W.sz], fun i k hi e => ?_, fun k hk => ?_, ⟨j :: ps, by rw [List.length_cons, p1, List.length_append]; rfl, fun i hi e => ?_⟩⟩⟩
  · by_cases c : i = j
    · subst c
      rw [self] at e
      cases e
      exact ⟨x, K, by rw [List.getElem?_append_right (Nat.le_refl _), Nat.sub_self]; rfl, ej, fun q hq => keep _ (b3 q hq)⟩
    · rw [other c] at e
      obtain ⟨y, L, c1, c2, c3⟩ := W.at_ i k hi e
      exact ⟨y, L, by rw [List.getElem?_append_left (List.getElem?_eq_some_iff.mp c1).1]; exact c1, c2, fun q hq => keep _ (c3 q hq)⟩
  · by_cases c : k = done.length
    · subst c
      exact ⟨j, jm, self⟩
    · rw [List.length_append] at hk
      have hk' : k < done.length := by
        have : [x].length = 1 := rfl
        omega
      obtain ⟨i, i1, i2⟩ := W.all k hk'
      refine ⟨i, i1, ?_⟩
      rw [other fun z => by rw [z, b2] at i2; cases i2]
      exact i2
  · by_cases c : i = j
    · subst c
      exact List.mem_cons_self
    · rw [other c] at e
      exact List.mem_cons_of_mem _ (p2 i hi e)
theorem own_all {m : Nat} (hm : BM m) : ∀ (rest done : List Int) (owner : Array (Option Nat)), Own m done owner → done.length + rest.length ≤ m →
    ∃ o', rest.foldl (stepF m) (some (owner, done.length)) = some (o', (done ++ rest).length) ∧ Own m (done ++ rest) o'
  | [], done, owner, W, _ => by
    rw [List.append_nil]
    exact ⟨owner, rfl, W⟩
  | x :: rest, done, owner, W, hl => by
    have hl2 : (x :: rest).length = rest.length + 1 := rfl
    obtain ⟨j, e, W'⟩ := own_next hm W (by omega) x
    have l1 : (done ++ [x]).length = done.length + 1 := by rw [List.length_append]; rfl
    obtain ⟨o', f, W2⟩ := own_all hm rest (done ++ [x]) _ W' (by omega)
    rw [List.append_assoc] at f W2
    rw [l1] at f
    refine ⟨o', ?_, W2⟩
    rw [List.foldl_cons, stepF_some e]
    exact f
theorem own_lay {m : Nat} (hm : BM m) {hs : Array Int} (hn : hs.size ≤ m) : ∃ owner, SetTable.layClean m hs = some owner ∧ Own m hs.toList owner := by
  obtain ⟨o', f, W⟩ := own_all hm hs.toList [] _ (Own.init m) (by rw [Array.length_toList]; show 0 + hs.size ≤ m; omega)
  refine ⟨o', ?_, W⟩
  rw [layClean_eq, show (some (Array.replicate (m + 1) (none : Option Nat), 0)) = some (Array.replicate (m + 1) (none : Option Nat), ([] : List Int).length) from rfl, f]
  rfl
theorem relaid_B (t : SetTable) {hs : Array Int} {wanted M : Nat} (hw : SetTable.sizeAbove wanted - 1 = M) (hM : BM M) (hn : hs.size ≤ M) :
    ∃ t' order, t.relaid hs wanted = some (t', order) ∧ order.toList.Perm (List.range hs.size) ∧ TB t' (order.toList.map fun i => hs.getD i 0) ∧ t'.mask = M ∧ t'.led = t.led ∧ t'.plain = t.plain := by
  obtain ⟨owner, e, W⟩ := own_lay hM hn
  have r := ris_live (fun j => owner.getD j none) (List.range (M + 1)) List.pairwise_lt_range
  have r1 : Ris ((liveOf M owner).map (·.1)) := r.1
  have at_ : ∀ {j k : Nat}, (j, k) ∈ liveOf M owner ↔ j ≤ M ∧ oAt owner j = some k := fun {j k} => mem_live W.sz
  have len : (liveOf M owner).length = hs.size := by
    obtain ⟨ps, p1, p2⟩ := W.ps
    have l1 : ((liveOf M owner).map (·.1)).length ≤ ps.length := nat_nodup_len _ ps (List.Pairwise.imp (fun z => Nat.ne_of_lt z) r1) fun y hy => by
      obtain ⟨⟨j, k⟩, h1, h2⟩ := List.mem_map.mp hy
      subst h2
      obtain ⟨c1, c2⟩ := at_.mp h1
      exact p2 j c1 (by rw [c2]; exact Option.some_ne_none k)
    have l2 : (List.range hs.size).length ≤ ((liveOf M owner).map (·.2)).length := nat_nodup_len _ _ List.nodup_range fun k hk => by
      obtain ⟨j, c1, c2⟩ := W.all k (by rw [Array.length_toList]; exact List.mem_range.mp hk)
      exact List.mem_map.mpr ⟨(j, k), at_.mpr ⟨c1, c2⟩, rfl⟩
    rw [List.length_map] at l1 l2
    rw [List.length_range] at l2
    rw [p1] at l1
    have l3 : hs.toList.length = hs.size := rfl
    omega
  refine ⟨tabOf t M owner, ((liveOf M owner).map (·.2)).toArray, by rw [relaid_eq, hw, e]; rfl, ?_, ⟨r1, rfl, ?_, hM, fun i x j h1 h2 => ?_⟩, rfl, rfl, rfl⟩
  · refine perm_range hs.size _ (by rw [List.length_map, len]) fun k hk => ?_
    obtain ⟨j, c1, c2⟩ := W.all k (by rw [Array.length_toList]; exact hk)
    exact List.mem_map.mpr ⟨(j, k), at_.mpr ⟨c1, c2⟩, rfl⟩
  · show ((liveOf M owner).map (·.1)).toArray.size = _
    rw [List.size_toArray, List.length_map, List.length_map, List.length_map]
  · have g1 : (((liveOf M owner).map (·.2)).map fun i => hs.getD i 0)[i]? = some x := h1
    have g2 : ((liveOf M owner).map (·.1))[i]? = some j := h2
    rw [List.getElem?_map, Option.map_eq_some_iff] at g2
    obtain ⟨⟨y, k⟩, hq, ey⟩ := g2
    subst ey
    rw [List.getElem?_map, List.getElem?_map, hq] at g1
    have ex : hs.getD k 0 = x := Option.some.inj g1
    obtain ⟨c1, c2⟩ := at_.mp (List.mem_of_getElem? hq)
    obtain ⟨x', K, d1, d2, d3⟩ := W.at_ y k c1 c2
    have ex' : hs.getD k 0 = x' := by rw [Array.getD_eq_getD_getElem?, ← Array.getElem?_toList, d1]; rfl
    have exx : x' = x := ex'.symm.trans ex
    subst exx
    refine ⟨K, d2, fun q hq => ?_⟩
    show way M x' q ∈ (liveOf M owner).map (·.1)
    cases z : oAt owner (way M x' q) with
    | none => exact absurd z (d3 q hq)
    | some k2 => exact List.mem_map.mpr ⟨(_, k2), at_.mpr ⟨way_in M x' q, z⟩, rfl⟩
theorem size_308 : SetTable.sizeAbove (SetTable.grown 77) = 512 := by decide +kernel
end Bw
-- SetB2
set_option autoImplicit true
set_option maxRecDepth 512
set_option Elab.async false
set_option linter.all false
set_option maxRecDepth 100000
set_option maxHeartbeats 4000000
/-! SetB2: sets of tuples of ints, up to 300 members: looked for, put in. -/
namespace Bw
open PySem PySem.Spec PyProof.Rows L2
section
variable {P : Program} {w : World} {A : Around} {E : Value → Shared → Prop} {s : Shared}
/-- the set at a: its members stand at these addresses -/
structure SB (P : Program) (w : World) (h : Heap) (a : Addr) (L : List (Addr × List Int)) (es : Array (Int × Value)) (ep : Nat) (t : SetTable) : Prop where
  ob : ∃ o, h.get? a = some o ∧ o.ExactSet ∧ o.data = .set es ep t
  ent : es.toList = rowsOf P w L
  tb : TB t (L.map fun p => thash P w p.2)
  dis : (L.map (·.2)).Nodup
  mem : ∀ p ∈ L, IsT P w h p.2 p.1
  pl : t.plain = true
  ld : w.params.followText "set-order" = true ∨ t.led = true
  rm : L.length * 5 < t.mask * 3
variable {a : Addr} {L : List (Addr × List Int)} {es : Array (Int × Value)} {ep : Nat} {t : SetTable}
theorem rows_len {es : Array (Int × Value)} {L : List (Addr × List Int)} (h : es.toList = rowsOf P w L) : es.size = L.length := by
  have z := congrArg List.length h
  unfold rowsOf at z
  rwa [List.length_map] at z
theorem tb_fits {hs : List Int} {t : SetTable} {n : Nat} (T : TB t hs) (hn : n = hs.length) (hm : n ≤ t.mask) : t.fits n = true := by
  have h1 := T.len
  unfold SetTable.fits SetTable.fill
  rw [T.nod, Bool.and_eq_true, beq_iff_eq, decide_eq_true_eq]
  show t.place.size = n ∧ t.place.size + 0 ≤ t.mask
  omega
theorem SB.sz (R : SB P w s.heap a L es ep t) : es.size = L.length := rows_len R.ent
theorem SB.fit (R : SB P w s.heap a L es ep t) : t.fits es.size = true := by
  have h1 := R.sz
  have h2 := R.rm
  exact tb_fits R.tb (by rw [List.length_map, h1]) (by omega)
theorem SB.at (R : SB P w s.heap a L es ep t) {i : Nat} {p : Addr × List Int} (h : L[i]? = some p) : es[i]? = some (thash P w p.2, Value.ref p.1) := by
  rw [← Array.getElem?_toList, R.ent]
  unfold rowsOf
  rw [List.getElem?_map, h]
  rfl
theorem SB.few (R : SB P w s.heap a L es ep t) : L.length ≤ 306 := by
  have h1 := R.rm
  have h2 := R.tb.bm.le
  omega
theorem dummy_none (m : Nat) : ∀ (n : Nat) (p : SetTable.Probe), p.dummy = none → (nth m p n).dummy = none
  | 0, _, h => h
  | n + 1, p, h => dummy_none m n (adv m p) (by unfold adv; split <;> exact h)
/-- a search, from the c-th slot of its way on -/
theorem seek (R : SB P w s.heap a L es ep t) {x : Addr} {k : List Int} (hx : IsT P w s.heap k x) (hu : A.units < cLine) {K : Nat} (k1 : K < 10 * SetTable.turns t.mask) (k2 : way t.mask (thash P w k) K ∉ t.place.toList)
    (k3 : ∀ q, q < K → way t.mask (thash P w k) q ∈ t.place.toList) {Q : SetFound → Shared → Prop} (yes : k ∈ L.map (·.2) → Q (.there none) s) (no : k ∉ L.map (·.2) → Q (.free (way t.mask (thash P w k) K) false) s) :
    ∀ (f c : Nat) (st : Option SetTable.Probe), st.getD (t.probeStart (thash P w k)) = nth t.mask (t.probeStart (thash P w k)) c → c ≤ K → K - c < f →
      (∀ (i : Nat) (p : Addr × List Int), L[i]? = some p → p.2 = k → ∃ q, c ≤ q ∧ q < K ∧ t.place.toList[i]? = some (way t.mask (thash P w k) q)) →
      wpAny (model P w) A (setSearchFrom a (.ref x) (thash P w k) true f st) Q E s := by
  intro f
  induction f with
  | zero => exact fun c st _ _ h => absurd h (Nat.not_lt_zero _)
  | succ f ih =>
    intro c st est cK cf back
    obtain ⟨o, o1, o2, o3⟩ := R.ob
    rw [setSearchFrom_succ]
    refine wpAny_bind (wpAny_setState_of o1 o3 R.fit ?_)
    dsimp only
    have gw : ¬ t.gaveWay = true := by
      unfold SetTable.gaveWay
      rw [R.tb.bm.odd]
      decide
    refine wp_if_neg gw ?_
    try refine wpAny_bind (wpAny_pure ?_)
    have ej : ∀ q, (nth t.mask (nth t.mask (t.probeStart (thash P w k)) c) q).j = way t.mask (thash P w k) (c + q) := fun q => congrArg SetTable.Probe.j (nth_add t.mask c (t.probeStart (thash P w k)) q).symm
    have hA : ∀ (i : Nat) (p : Addr × List Int), L[i]? = some p → (es[i]?.map (·.1)).getD 0 = thash P w p.2 := fun i p hp => by
      rw [R.at hp]
      rfl
    have eK : c + (K - c) = K := by omega
    rcases go_spec t R.tb.up R.tb.nod (fun i => (es[i]?.map (·.1)).getD 0) (thash P w k) (10 * SetTable.turns t.mask) (K - c) _ (dummy_none t.mask c _ rfl) (by omega)
      (fun q hq => by rw [ej]; exact k3 (c + q) (by omega)) (by rw [ej, eK]; exact k2) with ⟨q, i, q1, q2, q3, q4, q5⟩ | ⟨q4, q5⟩
    · -- one of this hash
      have pr : t.probe (fun i => (es[i]?.map (·.1)).getD 0) (thash P w k) (st.getD (t.probeStart (thash P w k))) = some (.candidate (way t.mask (thash P w k) (c + q)) i (nth t.mask (t.probeStart (thash P w k)) (c + (q + 1)))) := by
        rw [est, ← ej, nth_add t.mask c _ (q + 1)]
        exact q5
      rw [pr]
      dsimp only
      rw [ej] at q2
      have iL : i < L.length := by
        have z := (List.getElem?_eq_some_iff.mp q2).1
        have y := R.tb.lenL
        rw [List.length_map] at y
        omega
      obtain ⟨p, hp⟩ : ∃ p, L[i]? = some p := ⟨L[i], List.getElem?_eq_getElem iL⟩
      have pm := List.mem_of_getElem? hp
      have live : t.slot (way t.mask (thash P w k) (c + q)) = .live i := slot_live R.tb.up q2
      have more : wpAny (model P w) A (searchRest a (.ref x) (thash P w k) true f es t (way t.mask (thash P w k) (c + q)) i (nth t.mask (t.probeStart (thash P w k)) (c + (q + 1)))) Q E s := by
        unfold searchRest
        rw [R.at hp]
        dsimp only
        refine wpAny_bind (wpAny_holding (wpAny_eqBool_tuple hu (R.mem p pm) hx ?_))
        refine wpAny_bind (wpAny_setState_of o1 o3 R.fit ?_)
        dsimp only
        by_cases e : p.2 = k
        · refine wp_if_pos (by simp [e]) (wpAny_pure (yes (List.mem_map.mpr ⟨p, pm, e⟩)))
        · refine wp_if_neg (by simp [e]) ?_
          try refine wpAny_bind (wpAny_pure ?_)
          rw [sameMem]
          simp only [if_true, live, R.at hp]
          refine wpAny_bind (wpAny_isSame_ref_self (wpAny_bind (wpAny_pure ?_)))
          simp only [if_true]
          refine wp_if_neg (by simp [e]) ?_
          refine ih (c + (q + 1)) _ rfl (by omega) (by omega) fun i0 p0 e0 e1 => ?_
          obtain ⟨b, b1, b2, b3⟩ := back i0 p0 e0 e1
          refine ⟨b, Nat.lt_of_not_le fun z => ?_, b2, b3⟩
          rcases Nat.eq_or_lt_of_le (show b ≤ c + q from z) with z | z
          · subst z
            rw [slot_live R.tb.up b3] at live
            injection live with live
            rw [live, hp] at e0
            cases e0
            exact e e1
          · refine q4 (b - c) i0 (by omega) (by rw [ej, show c + (b - c) = b by omega]; exact b3) ?_
            show (es[i0]?.map (·.1)).getD 0 = _
            rw [hA i0 p0 e0, e1]
      by_cases hl : t.led = true
      · refine wp_if_neg (by simp [hl]) ?_
        try refine wpAny_bind (wpAny_pure ?_)
        exact more
      · refine wp_if_pos (by simp [hl]) (wpAny_bind (seen_tup hx (fun y hy => ?_) ?_))
        · obtain ⟨en, h1, h2⟩ := List.mem_map.mp hy
          have h3 : en ∈ es ∧ en.1 = thash P w k := by simpa using h1
          have h4 : en ∈ es.toList := Array.mem_toList_iff.mpr h3.1
          rw [R.ent] at h4
          obtain ⟨p2, h5, h6⟩ := List.mem_map.mp h4
          exact ⟨p2.2, p2.1, by rw [← h2, ← h6], R.mem p2 h5⟩
        · refine wp_if_neg (by decide) ?_
          try refine wpAny_bind (wpAny_pure ?_)
          exact more
    · -- a free slot
      have pr : t.probe (fun i => (es[i]?.map (·.1)).getD 0) (thash P w k) (st.getD (t.probeStart (thash P w k))) = some (.empty (way t.mask (thash P w k) K) none) := by
        have z : way t.mask (thash P w k) K = (nth t.mask (nth t.mask (t.probeStart (thash P w k)) c) (K - c)).j := by rw [ej, eK]
        rw [est, z]
        exact q5
      rw [pr]
      dsimp only
      refine wpAny_pure (no fun hm => ?_)
      obtain ⟨p0, e0, e1⟩ := List.mem_map.mp hm
      obtain ⟨i0, h0⟩ := List.mem_iff_getElem?.mp e0
      obtain ⟨b, b1, b2, b3⟩ := back i0 p0 h0 e1
      refine q4 (b - c) i0 (by omega) (by rw [ej, show c + (b - c) = b by omega]; exact b3) ?_
      show (es[i0]?.map (·.1)).getD 0 = _
      rw [hA i0 p0 h0, e1]
/-- a search as one puts in -/
theorem seek_add (R : SB P w s.heap a L es ep t) {x : Addr} {k : List Int} (hx : IsT P w s.heap k x) (hu : A.units < cLine) {Q : SetFound → Shared → Prop} (yes : k ∈ L.map (·.2) → Q (.there none) s)
    (no : ∀ K, k ∉ L.map (·.2) → way t.mask (thash P w k) K ∉ t.place.toList → (∀ q, q < K → way t.mask (thash P w k) q ∈ t.place.toList) → Q (.free (way t.mask (thash P w k) K) false) s) :
    wpAny (model P w) A (setSearch a (.ref x) (thash P w k) true) Q E s := by
  have h1 := R.rm
  have h2 := R.tb.bm.le
  obtain ⟨K, k1, k2, k3⟩ := R.tb.free (by rw [List.length_map]; omega) (thash P w k)
  unfold setSearch
  refine seek R hx hu k1 k2 k3 yes (fun z => no K z k2 k3) 100000 0 none rfl (Nat.zero_le _) (by unfold SetTable.turns at k1; omega) fun i p hp e => ?_
  have hi : (L.map fun p => thash P w p.2)[i]? = some (thash P w k) := by
    rw [List.getElem?_map, hp, ← e]
    rfl
  have il : i < t.place.toList.length := by
    have z := (List.getElem?_eq_some_iff.mp hi).1
    have y := R.tb.lenL
    omega
  obtain ⟨q, q1, q2⟩ := R.tb.pre k2 hi (List.getElem?_eq_getElem il)
  exact ⟨q, Nat.zero_le _, q1, by rw [List.getElem?_eq_getElem il, q2]⟩
/-- the table laid anew -/
theorem lay_anew {o : Obj} (o1 : s.heap.get? a = some o) (o2 : o.ExactSet) (o3 : o.data = .set es ep t) (e1 : es.toList = rowsOf P w L) (T : TB t (L.map fun p => thash P w p.2)) (hm : L.length ≤ t.mask)
    (nd : (L.map (·.2)).Nodup) (me : ∀ p ∈ L, IsT P w s.heap p.2 p.1) (pl : t.plain = true) (ld : w.params.followText "set-order" = true ∨ t.led = true) {wanted M : Nat}
    (hw : SetTable.sizeAbove wanted - 1 = M) (hM : BM M) (hn : L.length * 5 < M * 3) {Q : Unit → Shared → Prop}
    (hQ : ∀ h' L' es' ep' t', Heap.SameBut a s.heap h' → SB P w h' a L' es' ep' t' → L'.Perm L → Q () { s with heap := h' }) : wpAny (model P w) A (setRelay a wanted) Q E s := by
  have sz := rows_len e1
  have mle := hM.le
  obtain ⟨t', order, q1, q2, q3, q4, q5, q6⟩ := relaid_B t (hs := es.map (·.1)) (wanted := wanted) hw hM (by rw [Array.size_map, sz]; omega)
  rw [Array.size_map, sz] at q2
  obtain ⟨L2, r1, r2, r3⟩ := order_rows L es order e1 q2
  rw [← r3] at q3
  have sz2 : (order.filterMap (es[·]?)).size = es.size := by rw [rows_len r1, r2.length_eq, sz]
  rw [setRelay_eq]
  refine wpAny_bind (wpAny_setState_of o1 o3 (tb_fits T (by rw [List.length_map, sz]) (by omega)) ?_)
  dsimp only
  refine wp_if_neg (by rw [sizeLine_eq]; omega) ?_
  try refine wpAny_bind (wpAny_pure ?_)
  rw [q1]
  dsimp only
  refine wpAny_bind (wp_if_neg (by rw [sz2]; simp) ?_)
  try refine wpAny_bind (wpAny_pure ?_)
  refine wpAny_pure ?_
  dsimp only
  refine wpAny_storeSet_of o1 o3 ?_ (by rw [sz2, sz, sizeLine_eq]; omega)
  have sb : Heap.SameBut a s.heap (s.heap.update a (Obj.putSet (order.filterMap (es[·]?)) t')) := Heap.SameBut.update ..
  refine hQ _ L2 (order.filterMap (es[·]?)) (ep + 1) t' sb ⟨⟨_, store_at o1 o3, ⟨o2.1, o2.2.1, o2.2.2⟩, rfl⟩, r1, q3, (r2.map (·.2)).nodup_iff.mpr nd, fun p hp => isT_same (me p (r2.mem_iff.mp hp)) o1 o3 sb, by rw [q6]; exact pl, by rw [q5]; exact ld, ?_⟩ r2
  rw [r2.length_eq, q4]
  exact hn
/-- ONE PUT IN -/
theorem put_in (R : SB P w s.heap a L es ep t) {x : Addr} {k : List Int} (hx : IsT P w s.heap k x) (hu : A.units < cLine) (few : L.length < 300) {Q : Bool → Shared → Prop}
    (hQ : ∀ b h' L' es' ep' t', Heap.SameBut a s.heap h' → SB P w h' a L' es' ep' t' → (k ∈ L.map (·.2) → L' = L) → (k ∉ L.map (·.2) → L'.Perm ((x, k) :: L)) → Q b { s with heap := h' }) :
    wpAny (model P w) A (setAddHashed a (.ref x) (thash P w k)) Q E s := by
  obtain ⟨o, o1, o2, o3⟩ := R.ob
  have sz := R.sz
  have rm := R.rm
  unfold setAddHashed
  refine wpAny_holding ?_
  rw [show (100000 : Nat) = 99999 + 1 from rfl, setAddHashedIn_succ]
  refine wpAny_bind (wpAny_setState_of o1 o3 R.fit ?_)
  dsimp only
  refine wp_if_neg (by simp [byScan, Value.scannable]) ?_
  try refine wpAny_bind (wpAny_pure ?_)
  refine wpAny_bind (seek_add R hx hu (fun z => ?_) fun K z k2 k3 => ?_)
  · dsimp only
    exact wpAny_pure (hQ false s.heap L es ep t (Heap.SameBut.refl a s.heap) R (fun _ => rfl) fun y => absurd z y)
  · dsimp only
    refine wpAny_bind (wpAny_setState_of o1 o3 R.fit ?_)
    dsimp only
    obtain ⟨p1, p2, p3⟩ := R.tb.add k2 k3 rfl
    have c1 : (t.put (way t.mask (thash P w k) K)).1.plain = true := R.pl
    have c2 : (t.put (way t.mask (thash P w k) K)).1.mask = t.mask := rfl
    have c3 : (t.put (way t.mask (thash P w k) K)).1.led = t.led := rfl
    have c4 : (t.put (way t.mask (thash P w k) K)).2 = SetTable.below t.place (way t.mask (thash P w k) K) := rfl
    generalize t.put (way t.mask (thash P w k) K) = tp at p2 p3 c1 c2 c3 c4 ⊢
    obtain ⟨t1, p⟩ := tp
    dsimp only at p2 p3 c1 c2 c3 c4 ⊢
    rw [← c4] at p1 p2
    first
      | (refine wpAny_bind ?_; refine wp_if_pos c1 ?_; refine hashBy_tup hx ?_)
      | refine wp_if_pos c1 (wpAny_bind (hashBy_tup hx ?_))
    simp only [if_true]
    have en : (SetTable.insertAt es p (thash P w k, Value.ref x)).toList = rowsOf P w (L.take p ++ (x, k) :: L.drop p) := by rw [SetTable.toList_insertAt, rows_put, R.ent]
    have pm := put_perm L p (x, k)
    have ll : (L.take p ++ (x, k) :: L.drop p).length = L.length + 1 := pm.length_eq
    have T1 : TB t1 ((L.take p ++ (x, k) :: L.drop p).map fun q => thash P w q.2) := by
      rw [List.map_append, List.map_cons, List.map_take, List.map_drop]
      exact p2
    have nd1 : ((L.take p ++ (x, k) :: L.drop p).map (·.2)).Nodup := (pm.map (·.2)).nodup_iff.mpr (List.nodup_cons.mpr ⟨z, R.dis⟩)
    generalize SetTable.insertAt es p (thash P w k, Value.ref x) = es1 at en ⊢
    generalize L.take p ++ (x, k) :: L.drop p = L1 at en pm ll T1 nd1
    have sz1 := rows_len en
    refine wpAny_bind (wpAny_storeSet_of o1 o3 ?_ (by rw [sz1, ll, sizeLine_eq]; omega))
    have sb : Heap.SameBut a s.heap (s.heap.update a (Obj.putSet es1 t1)) := Heap.SameBut.update ..
    have at1 := store_at (es' := es1) (t' := t1) o1 o3
    generalize s.heap.update a (Obj.putSet es1 t1) = h1 at sb at1 ⊢
    have me1 : ∀ q ∈ L1, IsT P w h1 q.2 q.1 := fun q hq => by
      rcases List.mem_cons.mp (pm.mem_iff.mp hq) with e | hq
      · rw [e]
        exact isT_same hx o1 o3 sb
      · exact isT_same (R.mem q hq) o1 o3 sb
    have ld1 : w.params.followText "set-order" = true ∨ t1.led = true := by rw [c3]; exact R.ld
    have full : t1.tooFull = true ↔ (L.length + 1) * 5 ≥ t.mask * 3 := by
      unfold SetTable.tooFull
      rw [decide_eq_true_eq, p3, List.length_map, c2]
    by_cases hf : t1.tooFull = true
    · first
        | (refine wpAny_bind ?_; refine wp_if_pos (by simp [hf]) ?_)
        | (refine wp_if_pos (by simp [hf]) ?_; refine wpAny_bind ?_)
      have hf2 := full.mp hf
      rw [sz]
      have go : ∀ M, SetTable.sizeAbove (SetTable.grown (L.length + 1)) - 1 = M → BM M → (L.length + 1) * 5 < M * 3 → wpAny (model P w) A (setRelay a (SetTable.grown (L.length + 1))) (fun _ s' => wpAny (model P w) A (pure true) Q E s') E { s with heap := h1 } := fun M g1 g2 g3 => by
        refine lay_anew (s := { s with heap := h1 }) at1 ⟨o2.1, o2.2.1, o2.2.2⟩ rfl en T1 (by rw [ll, c2]; omega) nd1 me1 c1 ld1 g1 g2 (by rw [ll]; exact g3) fun h2 L2 es2 ep2 t2 sb2 R2 pm2 => ?_
        exact wpAny_pure (hQ true h2 L2 es2 ep2 t2 (sb.trans sb2) R2 (fun y => absurd y z) fun _ => pm2.trans pm)
      rcases R.tb.bm with (e | e | e) | e
      · have e2 : L.length = 4 := by rw [e] at hf2 rm; omega
        exact go 31 (by rw [e2, size_20]) (.inl (.inr (.inl rfl))) (by omega)
      · have e2 : L.length = 18 := by rw [e] at hf2 rm; omega
        exact go 127 (by rw [e2, size_76]) (.inl (.inr (.inr rfl))) (by omega)
      · have e2 : L.length = 76 := by rw [e] at hf2 rm; omega
        exact go 511 (by rw [e2, size_308]) (.inr rfl) (by omega)
      · exfalso
        rw [e] at hf2
        omega
    · first
        | refine wp_if_neg (by simp [hf]) ?_
        | (refine wpAny_bind ?_; refine wp_if_neg (by simp [hf]) ?_; refine wpAny_pure ?_)
      refine wpAny_pure (hQ true h1 L1 es1 (ep + 1) t1 sb ⟨⟨_, at1, ⟨o2.1, o2.2.1, o2.2.2⟩, rfl⟩, en, T1, nd1, me1, c1, ld1, ?_⟩ (fun y => absurd y z) fun _ => pm)
      rw [ll, c2]
      have := mt full.mpr hf
      omega
end
end Bw
-- SetB3
set_option autoImplicit true
set_option maxRecDepth 512
set_option Elab.async false
set_option linter.all false
set_option maxRecDepth 100000
set_option maxHeartbeats 4000000
/-! SetB3: set(xs), xs a list of tuples of ints with fewer than 300 different ones. -/
namespace Bw
open PySem PySem.Spec PyProof.Rows L2
section
variable {P : Program} {w : World} {A : Around} {E : Value → Shared → Prop} {s : Shared}
theorem SB.keep {h h' : Heap} {a : Addr} {L : List (Addr × List Int)} {es : Array (Int × Value)} {ep : Nat} {t : SetTable} (R : SB P w h a L es ep t) (ha : ∀ o, h.get? a = some o → h'.get? a = some o) (ht : ∀ p ∈ L, IsT P w h' p.2 p.1) : SB P w h' a L es ep t := by
  obtain ⟨o, o1, o2⟩ := R.ob
  exact ⟨⟨o, ha o o1, o2⟩, R.ent, R.tb, R.dis, ht, R.pl, R.ld, R.rm⟩
/-- a new set, as the model lays it -/
abbrev set0 (w : World) : Obj := { cls := .type "set", dict := none, data := .set #[] 0 (.fresh 0 0 (!w.params.followText "set-order")) }
theorem SB.new {h : Heap} {a : Addr} (ho : h.get? a = some (set0 w)) : SB P w h a [] #[] 0 (.fresh 0 0 (!w.params.followText "set-order")) := by
  refine ⟨⟨_, ho, ⟨rfl, rfl, rfl⟩, rfl⟩, rfl, ⟨List.Pairwise.nil, rfl, rfl, .inl (.inl rfl), fun i x j h1 => by cases h1⟩, List.nodup_nil, fun p h => absurd h List.not_mem_nil, rfl, ?_, by show 0 < 7 * 3; decide⟩
  show _ ∨ (!w.params.followText "set-order") = true
  cases w.params.followText "set-order"
  · exact .inr rfl
  · exact .inl rfl
theorem SB.le {h : Heap} {a : Addr} {L ks : List (Addr × List Int)} {es : Array (Int × Value)} {ep : Nat} {t : SetTable} (R : SB P w h a L es ep t) {D : List (List Int)} (hs : ∀ p ∈ L, p ∈ ks) (hD : ∀ p ∈ ks, p.2 ∈ D) : L.length ≤ D.length := by
  have z := nodup_lenA R.dis (m := D) fun k hk => by
    obtain ⟨p, h1, h2⟩ := List.mem_map.mp hk
    subst h2
    exact hD p (hs p h1)
  rwa [List.length_map] at z
/-- the loop that puts in one after the other -/
theorem put_all {I : Addr} {fp wr : List Addr} {G : Array GenState → Array GenState → Prop} {n : Nat} {Pv : Nat → Value → Prop} {St : Nat → Shared → Prop} {R : Result → Shared → Prop}
    (W : WalksS P w A.in1 I fp wr G n Pv St) {S : Addr} (hS : S ∉ fp) {ks : List (Addr × List Int)} (hn : n = ks.length) {D : List (List Int)} (hD : ∀ p ∈ ks, p.2 ∈ D) (hl : D.length < 300) (hv : ∀ i v, Pv i v → ∃ p, ks[i]? = some p ∧ v = .ref p.1)
    {h0 : Heap} (hk : ∀ p ∈ ks, IsT P w h0 p.2 p.1) (h1 : h0.get? S = none) (h2 : ∀ b ∈ wr, h0.get? b = none) (hu : A.in1.units < cLine) :
    ∀ (d i : Nat) (s : Shared), n - i = d → i ≤ n → St i s → (∀ b o, h0.get? b = some o → s.heap.get? b = some o) → (∃ L es ep t, SB P w s.heap S L es ep t ∧ Got ks i L) →
      (∀ s' L es ep t, Moved (S :: wr) G s s' → SB P w s'.heap S L es ep t → Got ks n L → (∀ b o, h0.get? b = some o → s'.heap.get? b = some o) → R (.ok (.ret .none)) s') →
      codeAny (model P w) A (.builtin "set.update.loop" ⟨[.ref S, .ref I], []⟩) R s := by
  have hSw : S ∉ wr := fun h => hS (W.sub _ h)
  have sub : ∀ {L : List (Addr × List Int)} {i : Nat}, Got ks i L → ∀ p ∈ L, p ∈ ks := fun g p hp => List.mem_of_mem_take (g.sub p hp)
  have kept : ∀ {s s' : Shared}, Moved wr G s s' → (∀ b o, h0.get? b = some o → s.heap.get? b = some o) → ∀ b o, h0.get? b = some o → s'.heap.get? b = some o := fun m q b o e => m.heap b o (fun z => by rw [h2 b z] at e; cases e) (q b o e)
  intro d
  induction d with
  | zero =>
    intro i s hd hi st kp ⟨L, es, ep, t, r, g⟩ hR
    obtain rfl : i = n := by omega
    refine codeAny_builtin F.entry_set_update_loop ?_
    rw [Around.under_plainId F.plain_set_update_loop _]
    show wpAny _ A.in1 (pyNext (.ref I) >>= _) _ _ s
    refine wpAny_bind (W.done s _ _ st fun s' m => ?_)
    show wpAny _ A.in1 (ret Value.none) _ _ s'
    have kp' := kept m kp
    exact wpAny_pure (hR s' L es ep t (m.mono fun b hb => List.mem_cons_of_mem _ hb) (r.keep (fun o e => m.heap S o hSw e) fun p hp => isT_keep (hk p (sub g p hp)) kp') g kp')
  | succ d ih =>
    intro i s hd hi st kp ⟨L, es, ep, t, r, g⟩ hR
    refine codeAny_builtin F.entry_set_update_loop ?_
    rw [Around.under_plainId F.plain_set_update_loop _]
    show wpAny _ A.in1 (pyNext (.ref I) >>= _) _ _ s
    refine wpAny_bind (W.item i s _ _ (by omega) st fun v s' pv st' m => ?_)
    obtain ⟨p, hp, rfl⟩ := hv i v pv
    have kp' := kept m kp
    have pin := List.mem_of_getElem? hp
    have r' : SB P w s'.heap S L es ep t := r.keep (fun o e => m.heap S o hSw e) fun q hq => isT_keep (hk q (sub g q hq)) kp'
    have hx : IsT P w s'.heap p.2 p.1 := isT_keep (hk p pin) kp'
    have few := r'.le (sub g) hD
    show wpAny _ A.in1 (holding [Value.ref p.1] (setAdd S (.ref p.1)) >>= _) _ _ s'
    refine wpAny_bind (wpAny_holding ?_)
    unfold setAdd
    refine wpAny_holding (wpAny_bind (wpAny_pyHash_tuple hu hx ?_))
    refine put_in (s := { s' with toks := s'.toks + (p.2.length + 1) }) r' hx hu (by omega) fun b h' L' es' ep' t' sb r2 y1 y2 => ?_
    have g' : Got ks (i + 1) L' := by
      by_cases c : p.2 ∈ L.map (·.2)
      · rw [y1 c]
        exact g.same hp c
      · exact g.more hp (y2 c)
    have kp2 : ∀ b o, h0.get? b = some o → h'.get? b = some o := fun b o e => (sb.2 b (fun z => by rw [z, h1] at e; cases e)).trans (kp' b o e)
    refine wpAny_pure ⟨plainId_quiet F.plain_set_update_loop _, ih (i + 1) _ (by omega) (by omega) (W.frame _ s' _ _ st' (Nat.le_add_right _ _) fun b hb o e => ?_) kp2 ⟨L', es', ep', t', r2, g'⟩ fun s3 L3 es3 ep3 t3 m3 r3 g3 kp3 => ?_⟩
    · rw [sb.2 b (fun z : b = S => hS (by rw [← z]; exact hb))]
      exact e
    · refine hR s3 L3 es3 ep3 t3 (Moved.trans W.gtrans ((m.mono fun b hb => List.mem_cons_of_mem _ hb).then_heap (Nat.le_add_right _ _) fun b o hb e => ?_) m3) r3 g3 kp3
      rw [sb.2 b (fun z : b = S => hb (by rw [z]; exact List.mem_cons_self))]
      exact e
set_option maxHeartbeats 8000000 in
/-- set(xs) -/
theorem set_call {l : Addr} {items : Array Value} {ks : List (Addr × List Int)} {Q : Value → Shared → Prop} (hh : A.handled = none) (hl : s.heap.IsList l items) (hit : items.toList = ks.map fun p => Value.ref p.1)
    (hk : ∀ p ∈ ks, IsT P w s.heap p.2 p.1) {D : List (List Int)} (hD : ∀ p ∈ ks, p.2 ∈ D) (hd : D.length < 300) (hu : A.units + 3 < cLine)
    (hQ : ∀ (h' : Heap) (tk : Nat) L es ep t, SB P w h' s.heap.objs.size L es ep t → Got ks ks.length L → (∀ b o, s.heap.get? b = some o → h'.get? b = some o) → Q (.ref s.heap.objs.size) { s with heap := h', toks := tk }) :
    wpAny (model P w) A (call (.type "set") [.ref l]) Q E s := by
  have hn : items.size = ks.length := by
    have q := congrArg List.length hit
    rwa [List.length_map] at q
  obtain ⟨c, tl, hmro⟩ := F.called_set.mro
  have f1 := F.called_set.made
  have f2 := F.called_set.sub
  refine wpAny_call (codeAny_of_tree ?_)
  show wpAny _ _ (callAny (.type "set") _) _ _ _
  refine wpAny_pure ⟨Code.quiet_builtin _ (by decide +kernel), codeAny_builtin F.entry_type_call ?_⟩
  rw [Around.under_plain (weight_type_call_type "set" [.ref l] []) rfl]
  have f3 := F.called_set.notType
  have f4 := F.called_set.canCreate
  have f5 := F.typeCall_set_1 (.ref l)
  repeat any_goals (first | assumption | wp_step)
  refine codeAny_mono (code_set_led1 (.ref l) (E := E) (Q₁ := fun obj s₁ => obj = .ref s.heap.objs.size ∧ s₁ = { s with heap := s.heap.push (set0 w) }) ⟨rfl, rfl⟩) fun r s₁ hr => ?_
  cases r with
  | error e => exact hr
  | ok fl =>
    cases fl with
    | ret obj =>
      obtain ⟨rfl, rfl⟩ := hr
      have g1 : (s.heap.push (set0 w)).get? s.heap.objs.size = some (set0 w) := Heap.get?_push_size _ rfl
      have g2 : Shared.TypeIs { s with heap := s.heap.push (set0 w) } (.ref s.heap.objs.size) "set" := ⟨_, g1, rfl⟩
      have g3 := F.called_set.init.lookup
      have g4 := F.called_set.init.bind (.ref s.heap.objs.size)
      repeat any_goals (first | assumption | wp_step)
      refine codeAny_mono (codeAny_call_builtin (R := wants (fun r s₂ => r = .none ∧ ∃ h' tk L es ep t, s₂ = { s with heap := h', toks := tk } ∧ SB P w h' s.heap.objs.size L es ep t ∧ Got ks ks.length L ∧
          (∀ b o, s.heap.get? b = some o → h'.get? b = some o)) E) F.called_set.init.plain F.entry_set_init (check_set_init_1 g2 ?_)) fun r₂ s₂ hr₂ => ?_
      · obtain ⟨⟨ocls, odict, odata, oslots⟩, hol, hcl, nl, hdl⟩ := hl
        simp only at hcl hdl
        subst hcl hdl
        have hol' : (s.heap.push (set0 w)).get? l = some { cls := .type "list", dict := odict, data := .seq items nl, slots := oslots } := Heap.get?_push_of_some _ hol
        have i1 := F.sub_list_set
        have i2 := F.sub_list_frozenset
        have i3 : (Value.type "list" == Value.type "dict") = false := by decide
        have hl1 : (s.heap.push (set0 w)).IsList l items := ⟨_, hol', rfl, nl, rfl⟩
        unfold Builtin.«set.__init__» noKeywords Builtin.Frozenset.updateFrom
        generalize hPI : pyIter = PI
        wp_walk
        subst hPI
        refine wpAny_pyIter_list hl1 (wpAny_bind (wpAny_runValue ?_))
        have lS : l < s.heap.objs.size := Heap.lt_size hol
        have hh3 : A.in1.in1.in1.handled = none := by simp [hh]
        have sz1 : (s.heap.push (set0 w)).objs.size = s.heap.objs.size + 1 := Heap.size_push ..
        have neI : l ≠ (s.heap.push (set0 w)).objs.size := by rw [sz1]; exact Nat.ne_of_lt (Nat.lt_succ_of_lt lS)
        have Sf : s.heap.objs.size ∉ [(s.heap.push (set0 w)).objs.size, l] := by
          rw [sz1]
          intro z
          rcases List.mem_cons.mp z with z | z
          · omega
          · exact Nat.ne_of_gt lS (List.mem_singleton.mp z)
        have hv : ∀ (i : Nat) (v : Value), items[i]? = some v → ∃ p, ks[i]? = some p ∧ v = .ref p.1 := fun i v e => by
          have q : items.toList[i]? = some v := by rw [Array.getElem?_toList]; exact e
          rw [hit, List.getElem?_map, Option.map_eq_some_iff] at q
          obtain ⟨p, p1, p2⟩ := q
          exact ⟨p, p1, p2.symm⟩
        have nn : ∀ b, s.heap.objs.size ≤ b → s.heap.get? b = none := fun b hb => by
          cases q : s.heap.get? b with
          | none => rfl
          | some o => exact absurd (Heap.lt_size q) (Nat.not_lt.mpr hb)
        refine put_all ((Walks.list hh3 _ l neI items).toS) Sf hn hD hd hv hk (nn _ (Nat.le_refl _)) (fun b hb => nn b (by rw [List.mem_singleton.mp hb, sz1]; exact Nat.le_succ _)) hu (items.size - 0) 0 _ (by omega) (Nat.zero_le _)
          ⟨⟨_, Heap.get?_push_size _ rfl, rfl, rfl⟩, (hl1.push _)⟩ (fun b o e => Heap.get?_push_of_some _ (Heap.get?_push_of_some _ e)) ?start ?done
        case start => exact ⟨[], #[], 0, _, SB.new (Heap.get?_push_of_some _ g1), Got.zero ks⟩
        case done =>
          intro s' L es ep t m r g kp
          obtain ⟨h', gs, dr, tk, os'⟩ := s'
          have e1 : gs = s.gens := m.gens
          have e2 : dr = s.drawn := m.drawn
          have e3 : os' = s.os := m.os
          subst e1 e2 e3
          show wpAny _ _ _ _ _ _
          refine wpAny_pure ?_
          show wpAny _ _ (ret Value.none) _ _ _
          rw [hn] at g
          exact wpAny_pure ⟨rfl, h', tk, L, es, ep, t, rfl, r, g, kp⟩
      · cases r₂ with
        | error e => exact hr₂
        | ok fl₂ =>
          cases fl₂ with
          | ret r =>
            obtain ⟨rfl, h', tk, L, es, ep, t, rfl, r, g, kp⟩ := hr₂
            repeat any_goals (first | assumption | wp_step)
            exact hQ _ _ _ _ _ _ r g kp
          | _ => exact hr₂.elim
    | _ => exact hr.elim
end
end Bw
-- SetB4
set_option autoImplicit true
set_option maxRecDepth 512
set_option Elab.async false
set_option linter.all false
set_option maxRecDepth 100000
set_option maxHeartbeats 4000000
/-! SetB4: sorted(x) by what x is gathered into; sorted(set(xs)), sorted(d) of a dict keyed by tuples of ints. -/
namespace Bw
open PySem PySem.Spec PyProof.Rows L2
theorem IntTup.up {h h' : Heap} {v : Value} {ns : List Int} (x : IntTup h v ns) (k : ∀ b o, h.get? b = some o → h'.get? b = some o) : IntTup h' v ns := by
  obtain ⟨t, o, its, n, e, ho, r⟩ := x
  exact ⟨t, o, its, n, e, k t o ho, r⟩
section
variable {P : Program} {w : World} {A : Around} {E : Value → Shared → Prop} {s : Shared}
theorem sorted_coll {a : Addr} {ks : List (Addr × List Int)} {Q : Value → Shared → Prop} {G : Shared → Prop} (hz : ks.length ≤ sizeLine) (hk : ∀ p ∈ ks, IntTup s.heap (.ref p.1) p.2) (hne : 2 ≤ ks.length → ∀ p ∈ ks, p.2 ≠ [])
    (hG : ∀ s1, G s1 → ∀ b o, s.heap.get? b = some o → s1.heap.get? b = some o)
    (hc : ∀ Q' : List Value → Shared → Prop, (∀ s1 vs, G s1 → vs.Perm (ks.map fun p => Value.ref p.1) → Q' vs s1) → wpAny (model P w) A.in1 (collect (.ref a)) Q' E s)
    (hQ : ∀ (s1 : Shared) (h' : Heap) (p : Addr) (ep : Nat) (ks' : List (Addr × List Int)), G s1 → (∀ b o, s1.heap.get? b = some o → h'.get? b = some o) → s1.heap.objs.size ≤ p → h'.get? p = some (seqObj "list" (ks'.map fun q => Value.ref q.1).toArray ep) → ks'.Perm ks →
      ks'.Pairwise (fun q r => lexI r.2 q.2 = false) → Q (.ref p) { s1 with heap := h' }) :
    wpAny (model P w) A (call (.builtin "sorted") [.ref a]) Q E s := by
  refine Calls.call_function_entry kind_sorted plain_sorted entry_sorted (args_sorted1 _) (show _ from ?_)
  unfold Builtin.«sorted»
  refine wpAny_bind (m := checkCount "sorted" 1 1 _) (wpAny_pure (show _ from ?_))
  refine wpAny_bind (hc _ fun s1 vs g pm => ?_)
  have lv : vs.length = ks.length := by rw [pm.length_eq, List.length_map]
  refine wpAny_bind (wpAny_newList ?_ (by rw [lv]; exact hz))
  have oL : (s1.heap.push (seqObj "list" vs.toArray 0)).get? s1.heap.objs.size = some (seqObj "list" vs.toArray 0) := Heap.get?_push_size _ rfl
  have up : ∀ b o, s1.heap.get? b = some o → (s1.heap.push (seqObj "list" vs.toArray 0)).get? b = some o := fun b o e => Heap.get?_push_of_some _ e
  have of : ∀ v ∈ vs, ∃ p ∈ ks, v = Value.ref p.1 := fun v hv => by
    obtain ⟨p, h1, h2⟩ := List.mem_map.mp (pm.mem_iff.mp hv)
    exact ⟨p, h1, h2.symm⟩
  have at1 : ∀ p ∈ ks, IntTup (s1.heap.push (seqObj "list" vs.toArray 0)) (.ref p.1) p.2 := fun p hp => ((hk p hp).up (hG s1 g)).up up
  show wpAny _ _ _ _ _ { s1 with heap := s1.heap.push (seqObj "list" vs.toArray 0) }
  refine wpAny_bind (wpAny_holding (wpAny_call_entry slot_list_sort ⟨_, oL, rfl⟩ entry_list_sort (SrtO.list_sort_ord (s := { s1 with heap := s1.heap.push (seqObj "list" vs.toArray 0) }) (swo_lexI (kTup s.heap)) oL (by rw [lv]; exact hz) (fun h2 => ?_) fun out h1 h2 => ⟨_, rfl, ?_⟩) (args_list_sort _)))
  · refine tups_sortable (s := { s1 with heap := s1.heap.push (seqObj "list" vs.toArray 0) }) (by omega) (fun v hv => ?_) (fun o ho => ?_) (kTup s.heap) fun v hv ns hn => ?_
    · obtain ⟨p, p1, rfl⟩ := of v hv
      have z := at1 p p1
      cases e : p.2 with
      | nil => exact absurd e (hne (by omega) p p1)
      | cons m ms =>
        rw [e] at z
        exact ⟨m, ms, z⟩
    · have z : (s1.heap.push (seqObj "list" vs.toArray 0)).get? s1.heap.objs.size = some o := ho
      rw [oL] at z
      cases z
      show Value.type "list" ≠ Value.type "tuple"
      decide +kernel
    · obtain ⟨p, p1, rfl⟩ := of v hv
      rw [(hk p p1).key, ← (at1 p p1).key]
      exact hn.key
  · have pm2 : out.Perm (ks.map fun p => Value.ref p.1) := h2.perm.trans pm
    obtain ⟨ep, he⟩ := sortedHeap_at (vs := vs) (out := out.toArray) oL
    have e1 : out = (out.map fun v => (adV v, kTup s.heap v)).map (fun q => Value.ref q.1) := by
      rw [List.map_map]
      conv => lhs; rw [← List.map_id out]
      refine List.map_congr_left fun v hv => ?_
      obtain ⟨p, _, e⟩ := List.mem_map.mp (pm2.mem_iff.mp hv)
      subst e
      rfl
    have p1 : (out.map fun v => (adV v, kTup s.heap v)).Perm ks := by
      have z := pm2.map fun v => (adV v, kTup s.heap v)
      rw [List.map_map] at z
      have e2 : ks.map ((fun v => (adV v, kTup s.heap v)) ∘ fun p => Value.ref p.1) = ks := by
        conv => rhs; rw [← List.map_id ks]
        refine List.map_congr_left fun p hp => ?_
        show (p.1, kTup s.heap (.ref p.1)) = p
        rw [(hk p hp).key]
      rw [e2] at z
      exact z
    refine wpAny_pure ⟨_, rfl, hQ s1 _ s1.heap.objs.size ep _ g (fun b o e => ?_) (Nat.le_refl _) (by rw [← e1]; exact he) p1 (by rw [List.pairwise_map]; exact h1)⟩
    have lt := Heap.lt_size e
    show (sortedHeap (s1.heap.push (seqObj "list" vs.toArray 0)) s1.heap.objs.size vs out.toArray).get? b = some o
    rw [sortedHeap_old (Nat.ne_of_lt lt) (by rw [size_push']; exact Nat.lt_succ_of_lt lt)]
    exact up b o e
end
/-! ### the set as an object of the layer -/
structure Sb0 (P : Program) (w : World) (h : Heap) (a : Addr) (L : List (Addr × List Int)) : Prop where
  ex : ∃ (es : Array (Int × Value)) (ep : Nat) (t : SetTable), (∃ o, h.get? a = some o ∧ o.ExactSet ∧ o.data = .set es ep t) ∧ es.toList = rowsOf P w L ∧ TB t (L.map fun p => thash P w p.2) ∧ (L.map (·.2)).Nodup ∧ t.plain = true ∧
    (w.params.followText "set-order" = true ∨ t.led = true) ∧ L.length * 5 < t.mask * 3
def SbO (P : Program) (w : World) (a : Addr) (L : List (Addr × List Int)) : HO := .ext fun h => Sb0 P w h a L
theorem sbO_ok {P : Program} {w : World} {H : Hp} {h : Heap} {a : Addr} {L : List (Addr × List Int)} (R : Sb0 P w h a L) : ObjOk P w H h a (SbO P w a L) := by
  obtain ⟨es, ep, t, ⟨o, ho, r⟩, q⟩ := R.ex
  refine ⟨R, ⟨o, ho⟩, fun h1 h2 p k => ?_⟩
  obtain ⟨es', ep', t', ⟨o', ho', r'⟩, q'⟩ := Sb0.ex p
  exact ⟨es', ep', t', ⟨o', k o' ho', r'⟩, q'⟩
section
variable {X : Cx}
/-- set(xs) -/
def rSetB (K : PySem.W.Frag) (P : Program) (w : World) : List V → Hp → VK → Prop := fun xs H Q => ∃ (l : Addr) (ks : List (Addr × List Int)) (D : List (List Int)), xs = [V.ref l] ∧ SqL K H l (ks.map fun p => V.ref p.1) ∧ (∀ p ∈ ks, SqT K H p.1 (p.2.map V.int)) ∧ (∀ p ∈ ks, p.2 ∈ D) ∧ D.length < 300 ∧
  ∀ a L, H a = none → (∀ p ∈ L, p ∈ ks) → (∀ p ∈ ks, p.2 ∈ L.map (·.2)) → (L.map (·.2)).Nodup → Q (.ref a) (upd H a (SbO P w a L))
theorem call_setB (hc : X.calm = true) (hu : X.A.units + 8 < cLine) : CallR X (.type "set") (rSetB X.K X.prog X.w) := by
  intro pins s σ H xs us Q I r h
  obtain ⟨l, ks, D, rfl, hl, hk, hD, hd, q⟩ := h
  rw [Vals.ref1 r]
  obtain ⟨its, rv, pl, hz⟩ := I.list hl
  have hn : H s.heap.objs.size = none := I.hok.fresh (Nat.le_refl _)
  refine set_call (P := X.prog) (w := X.w) (ks := ks) (D := D) (I.ok.hd hc) pl.isList (by simpa using refs_of_vals rv) (fun p hp => I.isT (hk p hp)) hD hd (by omega) fun h' tk L es ep t R g k => ?_
  exact ⟨.ref s.heap.objs.size, upd H s.heap.objs.size (SbO X.prog X.w s.heap.objs.size L), I.laid (t' := tk) k (Nat.le_refl _) (sbO_ok ⟨es, ep, t, R.ob, R.ent, R.tb, R.dis, R.pl, R.ld, R.rm⟩), rfl,
    q _ L hn (fun p hp => List.mem_of_mem_take (g.sub p hp)) (fun p hp => g.all p (by rw [List.take_length]; exact hp)) R.dis⟩
/-- sorted(set) -/
def rSortSetB (K : PySem.W.Frag) (P : Program) (w : World) : List V → Hp → VK → Prop := fun vs H Q => ∃ (a : Addr) (L : List (Addr × List Int)), vs = [V.ref a] ∧ H a = some (SbO P w a L) ∧ (∀ p ∈ L, SqT K H p.1 (p.2.map V.int)) ∧ (∀ p ∈ L, p.2 ≠ []) ∧
  ∀ (ks' : List (Addr × List Int)) (p : Addr), ks'.Perm L → ks'.Pairwise (fun q r => lexI r.2 q.2 = false) → H p = none → Q (.ref p) (upd H p (.lst (ks'.map fun q => V.ref q.1)))
theorem call_sortSetB (hc : X.calm = true) : CallR X (.builtin "sorted") (rSortSetB X.K X.prog X.w) := by
  intro pins s σ H vs us Q I r h
  obtain ⟨a, L, rfl, ha, hk, hne, q⟩ := h
  rw [Vals.ref1 r]
  obtain ⟨es, ep, t, ⟨o, o1, o2, o3⟩, ent, tb, dis, pl, ld, rm⟩ := Sb0.ex (show Sb0 X.prog X.w s.heap a L from (I.hok a _ ha).1)
  have sz : es.size = L.length := rows_len ent
  have mle := tb.bm.le
  have fit : t.fits es.size = true := tb_fits tb (by rw [List.length_map, sz]) (by omega)
  have z300 : L.length ≤ 306 := by omega
  have zb : 306 < scanBound := by unfold scanBound; decide
  have zl : 306 ≤ sizeLine := by decide
  refine sorted_coll (P := X.prog) (w := X.w) (ks := L) (G := fun s1 => (∀ b o, s.heap.get? b = some o → s1.heap.get? b = some o) ∧ s.heap.objs.size ≤ s1.heap.objs.size ∧ s1.gens = s.gens ∧ s1.os = s.os) (by omega) (fun p hp => intTup_of I (hk p hp)) (fun _ => hne) (fun s1 g => g.1) (fun Q' hq => ?_) fun s1 h' p ep' ks' g kp hp he pm pw => ?_
  · refine collect_set (A := X.A.in1) (w := X.w) (I.ok.hd hc) ⟨o, o1, o2.1, o3⟩ fit (by omega) tb.up ld fun s1 vs k1 z1 g1 os1 pm => hq s1 vs ⟨k1, z1, g1, os1⟩ ?_
    have e : es.toList.map (·.2) = L.map fun p => Value.ref p.1 := by
      rw [ent]
      unfold rowsOf
      rw [List.map_map]
      rfl
    rw [← e]
    exact pm
  · obtain ⟨g1, g0, g2, g3⟩ := g
    have hp' := Nat.le_trans g0 hp
    have hn : H p = none := I.hok.fresh hp'
    have k2 : ∀ b o, s.heap.get? b = some o → h'.get? b = some o := fun b o e => kp b o (g1 b o e)
    have hlen : (ks'.map fun q => V.ref q.1).length ≤ sizeLine := by rw [List.length_map, pm.length_eq]; omega
    have J : Inv X pins σ (upd H p (.lst (ks'.map fun q => V.ref q.1))) { s with heap := h', gens := s1.gens, drawn := s1.drawn, toks := s1.toks } :=
      I.call (ch := []) (Un.laid k2 hp' hn) (I.hok.laid k2 hp' ⟨hlen, _, ep', vals_of_refs ks', he⟩) (by rw [g2]; exact I.bare) fun _ z => nomatch z
    have e : ({ s1 with heap := h' } : Shared) = { s with heap := h', gens := s1.gens, drawn := s1.drawn, toks := s1.toks } := by
      cases s1
      cases s
      cases g3
      rfl
    rw [e]
    exact ⟨.ref p, _, J, rfl, q ks' p pm pw hn⟩
/-- sorted(d), the keys tuples of ints -/
def rSortDT : List V → Hp → VK → Prop := fun vs H Q => ∃ (d : Addr) (kvs : List (List Key × V)) (nss : List (List Int)), vs = [V.ref d] ∧ H d = some (.dT kvs) ∧ kvs.map (·.1) = nss.map (fun ns => ns.map Sum.inl) ∧ (∀ ns ∈ nss, ns ≠ []) ∧
  ∀ (ks' : List (Addr × List Int)) (p : Addr), (ks'.map (·.2)).Perm nss → (∀ q ∈ ks', H q.1 = some (.tup (q.2.map V.int))) → ks'.Pairwise (fun q r => lexI r.2 q.2 = false) → H p = none → Q (.ref p) (upd H p (.lst (ks'.map fun q => V.ref q.1)))
theorem call_sortDT (hc : X.calm = true) : CallR X (.builtin "sorted") rSortDT := by
  intro pins s σ H vs us Q I r h
  obtain ⟨d, kvs, nss, rfl, hd, hks, hne, q⟩ := h
  rw [Vals.ref1 r]
  obtain ⟨z, hs, xs, pr, o, es, ep, ho, hx, hdt, he, hn⟩ := (show ObjOk X.prog X.w H s.heap d (.dT kvs) from I.hok d _ hd)
  have l1 : es.size = xs.length := size_of_entries he
  have l2 : kvs.length = xs.length := Paired.length pr
  have lz : xs.length ≤ sizeLine := by omega
  -- the keys' addresses with their ints
  obtain ⟨ks, k1, k2, k3⟩ : ∃ ks : List (Addr × List Int), ks.map (·.1) = xs.map (fun x => x.2.1) ∧ ks.map (·.2) = nss ∧ ∀ p ∈ ks, H p.1 = some (.tup (p.2.map V.int)) := by
    have key : ∀ {kvs : List (List Key × V)} {xs : List (List Key × Addr × Value)} {nss : List (List Int)}, KT H kvs xs → kvs.map (·.1) = nss.map (fun ns => ns.map Sum.inl) →
        ∃ ks : List (Addr × List Int), ks.map (·.1) = xs.map (fun x => x.2.1) ∧ ks.map (·.2) = nss ∧ ∀ p ∈ ks, H p.1 = some (.tup (p.2.map V.int)) := by
      intro kvs xs nss r
      induction r generalizing nss with
      | nil =>
        intro e
        cases nss with
        | nil => exact ⟨[], rfl, rfl, fun p h => absurd h List.not_mem_nil⟩
        | cons _ _ => cases e
      | @cons kv x kvs xs h t ih =>
        intro e
        cases nss with
        | nil => cases e
        | cons ns nss =>
          have e' : kv.1 :: kvs.map (·.1) = ns.map Sum.inl :: nss.map (fun ns => ns.map Sum.inl) := e
          injection e' with e1 e2
          obtain ⟨ks, c1, c2, c3⟩ := ih e2
          refine ⟨(x.2.1, ns) :: ks, by rw [List.map_cons, List.map_cons, c1], by rw [List.map_cons, c2], fun p hp => ?_⟩
          rcases List.mem_cons.mp hp with y | y
          · subst y
            have y := h.2.1
            rw [e1, List.map_map] at y
            exact y
          · exact c3 p y
    exact key pr hks
  have lk : ks.length = xs.length := by
    have := congrArg List.length k1
    rwa [List.length_map, List.length_map] at this
  refine sorted_coll (P := X.prog) (w := X.w) (ks := ks) (G := fun s1 => ∃ (h1 : Heap) (tk : Nat), s1 = { s with heap := h1, toks := tk } ∧ ∀ b o, s.heap.get? b = some o → h1.get? b = some o) (by omega) (fun p hp => intTup_of I (SqT.of (k3 p hp))) (fun _ p hp => hne p.2 (by rw [← k2]; exact List.mem_map_of_mem hp))
    (fun s1 ⟨h1, tk, e, k⟩ => by subst e; exact k) (fun Q' hq => ?_) fun s1 h' p ep' ks' g kp hp he' pm pw => ?_
  · refine PySem.W.kdu_collect (A := X.A.in1) (kdl_raw hs hx hdt) (I.ok.hd hc) ho (by omega) fun h1 tk acc kp it => hq _ _ ⟨h1, tk, rfl, kp⟩ ?_
    have e : acc.toList = ks.map fun p => Value.ref p.1 := by
      have e1 : (ks.map fun p => Value.ref p.1) = (ks.map (·.1)).map Value.ref := by rw [List.map_map]; rfl
      rw [e1, k1, List.map_map]
      apply List.ext_getElem?
      intro j
      rw [List.getElem?_map]
      cases hj : acc.toList[j]? with
      | none =>
        have h1 := List.getElem?_eq_none_iff.mp hj
        have h2 : acc.toList.length = acc.size := rfl
        have h3 := it.1
        rw [List.getElem?_eq_none (by omega)]
        rfl
      | some v =>
        obtain ⟨en, hen, hv⟩ := it.2 j v (by rw [← Array.getElem?_toList]; exact hj)
        have qe := entry_at he j
        rw [hen] at qe
        cases hb : xs[j]? with
        | none =>
          rw [hb] at qe
          cases qe
        | some b =>
          rw [hb] at qe
          have e2 : en = entryOfKey (tupleKind (mixKind X.prog X.w)) b := Option.some.inj qe
          rw [hv, e2]
          rfl
    rw [e]
  · obtain ⟨h1, tk, e, k⟩ := g
    subst e
    have I1 : Inv X pins σ H { s with heap := h1, toks := tk } := I.kept k
    have hlen : (ks'.map fun q => V.ref q.1).length ≤ sizeLine := by rw [List.length_map, pm.length_eq]; omega
    exact ⟨.ref p, upd H p (.lst (ks'.map fun q => V.ref q.1)), I1.laid (t' := tk) kp hp ⟨hlen, _, ep', vals_of_refs ks', he'⟩, rfl, q ks' p (by rw [← k2]; exact pm.map _) (fun q hq => k3 q (pm.mem_iff.mp hq)) pw (I1.hok.fresh hp)⟩
end
end Bw
-- WmB
set_option autoImplicit true
set_option maxRecDepth 512
set_option Elab.async false
set_option linter.all false
set_option maxRecDepth 100000
set_option maxHeartbeats 1000000
/-! WmB: lists of rows: pressed all, without the same ones twice; sorted. -/
namespace Bw
open PySem PySem.Spec PyProof.Rows L2 C8
def rvi (n : Nat) (r : Row) : List Int := (List.range n).map r
theorem rk_rvi (n : Nat) (r : Row) : rk n r = (rvi n r).map Sum.inl := by
  unfold rk rvi
  rw [List.map_map]
  rfl
theorem rvi_eq {S : Sys} {i j : Nat} {r s : Row} (hr : Reach S i r) (hs : Reach S j s) (h : rvi S.n r = rvi S.n s) : r = s := row_ext hr hs (range_inj h)
def addR (n : Nat) (Rs : List Row) (r : Row) : List Row := if rvi n r ∈ Rs.map (rvi n) then Rs else Rs ++ [r]
def accR (S : Sys) (a : Nat) (Rs l : List Row) : List Row := l.foldl (fun acc r => addR S.n acc (press S.w a r)) Rs
def nextR (S : Sys) (a : Nat) (Rs : List Row) : List Row := accR S a Rs Rs
def rowsR (S : Sys) : List Nat → List Row → List Row
  | [], Rs => Rs
  | a :: u, Rs => rowsR S u (nextR S a Rs)
theorem rowsR_snoc (S : Sys) (a : Nat) : ∀ (u : List Nat) (Rs : List Row), rowsR S (u ++ [a]) Rs = nextR S a (rowsR S u Rs)
  | [], _ => rfl
  | _ :: u, Rs => rowsR_snoc S a u _
/-- different rows, all reached -/
def Rok (S : Sys) (Rs : List Row) : Prop := (Rs.map (rvi S.n)).Nodup ∧ ∀ r ∈ Rs, ∃ j, Reach S j r
theorem addR_ok {S : Sys} {Rs : List Row} {r : Row} (h : Rok S Rs) (hr : ∃ j, Reach S j r) : Rok S (addR S.n Rs r) ∧ (∀ x, x ∈ addR S.n Rs r ↔ x ∈ Rs ∨ x = r) ∧ (addR S.n Rs r).length ≤ Rs.length + 1 := by
  unfold addR
  split
  · rename_i hm
    refine ⟨h, fun x => ⟨.inl, fun z => ?_⟩, Nat.le_succ _⟩
    rcases z with z | z
    · exact z
    · subst z
      obtain ⟨s, h1, h2⟩ := List.mem_map.mp hm
      obtain ⟨i, hi⟩ := h.2 s h1
      obtain ⟨j, hj⟩ := hr
      rw [← rvi_eq hi hj h2]
      exact h1
  · rename_i hm
    refine ⟨⟨?_, fun x hx => ?_⟩, fun x => ?_, by rw [List.length_append]; exact Nat.le_refl _⟩
    · rw [List.map_append, List.nodup_append]
      refine ⟨h.1, by simp, fun a ha b hb e => ?_⟩
      rw [List.map_cons, List.map_nil, List.mem_singleton] at hb
      subst hb e
      exact hm ha
    · rcases List.mem_append.mp hx with z | z
      · exact h.2 x z
      · rw [List.mem_singleton.mp z]
        exact hr
    · rw [List.mem_append, List.mem_singleton]
theorem accR_ok {S : Sys} {a : Nat} (ha : a < S.n) : ∀ {l Rs : List Row}, Rok S Rs → (∀ r ∈ l, ∃ j, Reach S j r) → Rok S (accR S a Rs l) ∧ (∀ x, x ∈ accR S a Rs l ↔ x ∈ Rs ∨ ∃ r ∈ l, x = press S.w a r) ∧ (accR S a Rs l).length ≤ Rs.length + l.length
  | [], Rs, h, _ => ⟨h, fun x => ⟨.inl, fun z => z.resolve_right fun ⟨r, hr, _⟩ => absurd hr List.not_mem_nil⟩, Nat.le_refl _⟩
  | r :: l, Rs, h, hl => by
    obtain ⟨j, hj⟩ := hl r List.mem_cons_self
    have hp : ∃ i, Reach S i (press S.w a r) := by
      obtain ⟨i, hi, _⟩ := reach_pr (S := S) [a] (fun b hb => by rw [List.mem_singleton.mp hb]; exact ha) hj
      exact ⟨i, hi⟩
    obtain ⟨h1, h2, h3⟩ := addR_ok h hp
    obtain ⟨g1, g2, g3⟩ := accR_ok ha h1 fun s hs => hl s (List.mem_cons_of_mem _ hs)
    refine ⟨g1, fun x => ?_, ?_⟩
    · rw [show accR S a Rs (r :: l) = accR S a (addR S.n Rs (press S.w a r)) l from rfl, g2, h2]
      constructor
      · rintro ((z | z) | ⟨s, hs, e⟩)
        · exact .inl z
        · exact .inr ⟨r, List.mem_cons_self, z⟩
        · exact .inr ⟨s, List.mem_cons_of_mem _ hs, e⟩
      · rintro (z | ⟨s, hs, e⟩)
        · exact .inl (.inl z)
        · rcases List.mem_cons.mp hs with y | y
          · subst y
            exact .inl (.inr e)
          · exact .inr ⟨s, y, e⟩
    · rw [show accR S a Rs (r :: l) = accR S a (addR S.n Rs (press S.w a r)) l from rfl, List.length_cons]
      omega
theorem accR_snoc (S : Sys) (a : Nat) (Rs l : List Row) (r : Row) : accR S a Rs (l ++ [r]) = addR S.n (accR S a Rs l) (press S.w a r) := by
  unfold accR
  rw [List.foldl_append]
  rfl
theorem rowsR_ok {S : Sys} : ∀ {u : List Nat} {Rs : List Row}, (∀ a ∈ u, a < S.n) → Rok S Rs → Rok S (rowsR S u Rs) ∧ (∀ x, x ∈ rowsR S u Rs ↔ ∃ s ∈ Rs, Sb S u s x) ∧ (rowsR S u Rs).length ≤ 2 ^ u.length * Rs.length
  | [], Rs, _, h => ⟨h, fun x => ⟨fun z => ⟨x, z, sb_nil.mpr rfl⟩, fun ⟨s, hs, z⟩ => by rw [← sb_nil.mp z]; exact hs⟩, by show Rs.length ≤ 2 ^ 0 * Rs.length; omega⟩
  | a :: u, Rs, hu, h => by
    have ha := hu a List.mem_cons_self
    obtain ⟨h1, h2, h3⟩ := accR_ok ha h h.2
    obtain ⟨g1, g2, g3⟩ := rowsR_ok (u := u) (Rs := nextR S a Rs) (fun b hb => hu b (List.mem_cons_of_mem _ hb)) h1
    refine ⟨g1, fun x => ?_, ?_⟩
    · show x ∈ rowsR S u (nextR S a Rs) ↔ _
      rw [g2]
      constructor
      · rintro ⟨s, hs, z⟩
        rcases (h2 s).mp hs with y | ⟨r, hr, e⟩
        · exact ⟨s, y, sb_cons.mpr (.inl z)⟩
        · subst e
          exact ⟨r, hr, sb_cons.mpr (.inr z)⟩
      · rintro ⟨s, hs, z⟩
        rcases sb_cons.mp z with y | y
        · exact ⟨s, (h2 s).mpr (.inl hs), y⟩
        · exact ⟨_, (h2 _).mpr (.inr ⟨s, hs, rfl⟩), y⟩
    · show (rowsR S u (nextR S a Rs)).length ≤ _
      have h4 : (nextR S a Rs).length ≤ Rs.length + Rs.length := h3
      rw [List.length_cons, Nat.pow_succ, Nat.mul_assoc]
      exact Nat.le_trans g3 (Nat.mul_le_mul_left _ (by omega))
theorem rok_one (S : Sys) : Rok S [rho] := ⟨by simp, fun r hr => ⟨0, by rw [List.mem_singleton.mp hr]; exact .zero⟩⟩
theorem rowsR_len {S : Sys} {u : List Nat} (hu : ∀ a ∈ u, a < S.n) : (rowsR S u [rho]).length ≤ 2 ^ u.length := by
  have h := (rowsR_ok hu (rok_one S)).2.2
  rwa [List.length_singleton, Nat.mul_one] at h
/-- what is due: the rows by words left of u, ascending -/
structure DueL (S : Sys) (u : List Nat) (L : List (List Int)) : Prop where
  asc : L.Pairwise fun a b => lexI b a = false
  nd : L.Nodup
  mem : ∀ ns, ns ∈ L ↔ ∃ r, Sb S u rho r ∧ ns = rvi S.n r
theorem asc_uniq : ∀ {L M : List (List Int)}, L.Pairwise (fun a b => lexI b a = false) → M.Pairwise (fun a b => lexI b a = false) → L.Nodup → M.Nodup → (∀ x, x ∈ L ↔ x ∈ M) → L = M
  | [], [], _, _, _, _, _ => rfl
  | [], m :: M, _, _, _, _, h => absurd ((h m).mpr List.mem_cons_self) List.not_mem_nil
  | l :: L, [], _, _, _, _, h => absurd ((h l).mp List.mem_cons_self) List.not_mem_nil
  | l :: L, m :: M, h1, h2, d1, d2, h => by
    obtain ⟨a1, b1⟩ := List.pairwise_cons.mp h1
    obtain ⟨a2, b2⟩ := List.pairwise_cons.mp h2
    obtain ⟨c1, e1⟩ := List.nodup_cons.mp d1
    obtain ⟨c2, e2⟩ := List.nodup_cons.mp d2
    have e : l = m := by
      rcases List.mem_cons.mp ((h l).mp List.mem_cons_self) with z | z
      · exact z
      · rcases List.mem_cons.mp ((h m).mpr List.mem_cons_self) with y | y
        · exact y.symm
        · exact lexI_total _ _ (a2 l z) (a1 m y)
    subst e
    rw [asc_uniq b1 b2 e1 e2 fun x => ?_]
    constructor
    · intro hx
      rcases List.mem_cons.mp ((h x).mp (List.mem_cons_of_mem _ hx)) with z | z
      · subst z
        exact absurd hx c1
      · exact z
    · intro hx
      rcases List.mem_cons.mp ((h x).mpr (List.mem_cons_of_mem _ hx)) with z | z
      · subst z
        exact absurd hx c2
      · exact z
theorem DueL.uniq {S : Sys} {u v : List Nat} {L M : List (List Int)} (h : DueL S u L) (h' : DueL S v M) (e : ∀ r, Sb S u rho r ↔ Sb S v rho r) : L = M :=
  asc_uniq h.asc h'.asc h.nd h'.nd fun x => by
    rw [h.mem, h'.mem]
    constructor
    · rintro ⟨r, hr, z⟩
      exact ⟨r, (e r).mp hr, z⟩
    · rintro ⟨r, hr, z⟩
      exact ⟨r, (e r).mpr hr, z⟩
theorem rows_mem {S : Sys} {u : List Nat} (hu : ∀ a ∈ u, a < S.n) (ns : List Int) : ns ∈ (rowsR S u [rho]).map (rvi S.n) ↔ ∃ r, Sb S u rho r ∧ ns = rvi S.n r := by
  have h := (rowsR_ok hu (rok_one S)).2.1
  rw [List.mem_map]
  constructor
  · rintro ⟨r, hr, e⟩
    obtain ⟨s, hs, z⟩ := (h r).mp hr
    rw [List.mem_singleton.mp hs] at z
    exact ⟨r, z, e.symm⟩
  · rintro ⟨r, hr, e⟩
    exact ⟨r, (h r).mpr ⟨rho, List.mem_singleton.mpr rfl, hr⟩, e.symm⟩
theorem DueL.rows {S : Sys} {u : List Nat} {L : List (List Int)} (hu : ∀ a ∈ u, a < S.n) (hp : L.Perm ((rowsR S u [rho]).map (rvi S.n))) (hs : L.Pairwise fun a b => lexI b a = false) : DueL S u L :=
  ⟨hs, hp.nodup_iff.mpr (rowsR_ok hu (rok_one S)).1.1, fun ns => by rw [hp.mem_iff, rows_mem hu]⟩
theorem DueL.len {S : Sys} {u : List Nat} {L : List (List Int)} (hu : ∀ a ∈ u, a < S.n) (h : DueL S u L) : L.length = (rowsR S u [rho]).length := by
  have h1 := (rowsR_ok hu (rok_one S)).1.1
  have l1 := nodup_lenA h.nd (m := (rowsR S u [rho]).map (rvi S.n)) fun x hx => (rows_mem hu x).mpr ((h.mem x).mp hx)
  have l2 := nodup_lenA h1 (m := L) fun x hx => (h.mem x).mpr ((rows_mem hu x).mp hx)
  rw [List.length_map] at l1 l2
  omega
/-! ### the dict of rows -/
def rent (n : Nat) (r : Row) : List L2.Key × V := (rk n r, .bl true)
theorem rk_in (n : Nat) (Rs : List Row) (r : Row) : (((Rs.map (rent n)).any fun kv => decide (kv.1 = rk n r)) = true) ↔ rvi n r ∈ Rs.map (rvi n) := by
  rw [List.any_eq_true, List.mem_map]
  constructor
  · rintro ⟨kv, h1, h2⟩
    obtain ⟨s, hs, rfl⟩ := List.mem_map.mp h1
    have e : rk n s = rk n r := of_decide_eq_true h2
    rw [rk_rvi, rk_rvi] at e
    exact ⟨s, hs, (List.map_inj_right (fun a b z => Sum.inl.inj z)).mp e⟩
  · rintro ⟨s, hs, e⟩
    refine ⟨rent n s, List.mem_map_of_mem hs, decide_eq_true ?_⟩
    show rk n s = rk n r
    rw [rk_rvi, rk_rvi, e]
theorem putK_row (n : Nat) (Rs : List Row) (r : Row) : putK (Rs.map (rent n)) (rk n r) (V.bl true) = (addR n Rs r).map (rent n) := by
  unfold putK addR
  by_cases h : rvi n r ∈ Rs.map (rvi n)
  · rw [if_pos ((rk_in n Rs r).mpr h), if_pos h, List.map_map]
    refine List.map_congr_left fun s _ => ?_
    show (if rk n s = rk n r then (rk n s, V.bl true) else rent n s) = rent n s
    split <;> rfl
  · rw [if_neg (fun z => h ((rk_in n Rs r).mp z)), if_neg h, List.map_append]
    rfl
end Bw
-- WmC
set_option autoImplicit true
set_option maxRecDepth 512
set_option Elab.async false
set_option linter.all false
set_option maxRecDepth 100000
set_option maxHeartbeats 2000000
/-! WmC: listed, rows_below, count_below. -/
namespace Bw
open PySem PySem.Spec PyProof.Rows L2 C8
theorem Paired.atI {α β : Type} {F : α → β → Prop} : ∀ {l₁ : List α} {l₂ : List β}, Paired F l₁ l₂ → l₁.length = l₂.length ∧ ∀ (i : Nat) (a : α) (b : β), l₁[i]? = some a → l₂[i]? = some b → F a b
  | _, _, .nil => ⟨rfl, fun i a b h _ => by cases h⟩
  | _, _, .cons h₁ t => by
    obtain ⟨q1, q2⟩ := Paired.atI t
    refine ⟨congrArg (· + 1) q1, fun i a b h h' => ?_⟩
    cases i with
    | zero =>
      cases h
      cases h'
      exact h₁
    | succ i => exact q2 i a b h h'
section
variable {P : Program} {w : World} {K : PySem.W.Frag} {mg : Str → Option Value} {base : Heap} {C CC : Addr}
def spListed (K : PySem.W.Frag) (C : Addr) : Sp := fun vs H Q _ => ∃ (b a : Addr) (S : Sys) (u : List Nat) (k : Nat), vs = [.ref b, .ref a] ∧ Bo K C H b S ∧ Wt S ∧ 1 ≤ S.n ∧ S.n ≤ 6 ∧ SqA K H a (wv u) ∧ u.length ≤ 60 ∧ (∀ l ∈ u, l < S.n) ∧ Reach S k (pr S.w u.reverse rho) ∧ k ≤ 12 ∧
  ∀ p' H', Same H H' → SqT K H' p' (wv (lw S k (pr S.w u.reverse rho))) → Q (.ref p') H'
theorem ok_listed (G : GD K mg "listed" s_listed) (c1 : Cal P w K mg base 3 "need_word" (spNeedW K C) []) (c2 : Cal P w K mg base 7 "shortest_by" (spShB K C) []) (m1 : mg "len" = none) {v12 : Value} (m3 : mg "MOST_LISTED" = some v12) (h12 : RelV (.int 12) v12) : Cal P w K mg base 8 "listed" (spListed K C) [] := by
  refine cal_of (N := ["bonds", "word", "letters"]) (ps := ["bonds", "word"]) G ⟨rfl, rfl, rfl, by decide +kernel, rfl, by decide +kernel, by decide +kernel⟩ (fun _ _ _ _ _ _ us hl => match us, hl with | [_, _], _ => rfl) (fun vs H Q E h => ?_) (fun f cdv A outer s H vs Q E hr h => ?_)
  · obtain ⟨a, _, _, _, _, rfl, _⟩ := h
    rfl
  · obtain ⟨b, a, S, u, k, rfl, hB, hW, h1, h6, hA, hl, hlt, hre, hk, q⟩ := h
    have nd : (["bonds", "word", "letters"] : List Str).Nodup := by decide +kernel
    refine ⟨_, pss_cons (ps_expr (pe_c c1 hr (by decide) (by rfl) (pa_cons (pv 0) (pa_cons (pv 1) pa_nil))))
      (pss_cons (ps_set (i := 2) nd rfl (.inl rfl) (pe_c c2 hr (by decide) (by rfl) (pa_cons (pv 0) (pa_cons (pv 1) pa_nil))))
      (pss_cons (ps_if (pt_cmpR op_gt (pe_callB call_len (by rfl) m1 boot_len (pa_cons (pv 2) pa_nil)) (pe_glob (v := .int 12) (by rfl) m3 h12) (nomark _)) (pss_one ps_never) pss_nil)
      (pss_one (ps_ret (pv 2))))), ?_⟩
    refine ⟨.ref b, rfl, .ref a, rfl, b, a, S, u, rfl, hB, h6, hA, hl, hlt, fun H1 s1 => ?_⟩
    refine ⟨.ref b, rfl, .ref a, rfl, b, a, S, u, k, rfl, hB.same s1, hW, h1, h6, hA.same s1, hlt, hre, by omega, fun p2 H2 s2 hp => ?_⟩
    have lk := lw_len hre
    refine ⟨.ref p2, rfl, .ref p2, k, rfl, .inr ⟨_, hp, by rw [wv_len, lk]⟩, _, _, rfl, rfl, _, rfl, ?_⟩
    rw [show decide ((12 : Int) < (k : Nat)) = false from decide_eq_false fun z => by omega]
    exact ⟨.ref p2, rfl, q p2 H2 (Same.trans s1 s2) hp⟩
/-- rows_below -/
def spRowsB (K : PySem.W.Frag) (C : Addr) : Sp := fun vs H Q _ => ∃ (b a : Addr) (S : Sys) (u : List Nat), vs = [.ref b, .ref a] ∧ Bo K C H b S ∧ Wt S ∧ 1 ≤ S.n ∧ S.n ≤ 6 ∧ SqT K H a (wv u) ∧ (∀ l ∈ u, l < S.n) ∧ u.length ≤ 12 ∧
  ∀ d H', Same H H' → H' d = some (.dT ((rowsR S u [rho]).map (rent S.n))) → Q (.ref d) H'
theorem ok_rows_below (G : GD K mg "rows_below" s_rows_below) (c1 : Cal P w K mg base 3 "start" (spStart K C) []) (c2 : Cal P w K mg base 5 "pressed" (spPressed K C) []) (m1 : mg "list" = none) : Cal P w K mg base 6 "rows_below" (spRowsB K C) [] := by
  refine cal_of (N := ["bonds", "letters", "found", "letter", "row"]) (ps := ["bonds", "letters"]) G ⟨rfl, rfl, rfl, by decide +kernel, rfl, by decide +kernel, by decide +kernel⟩ (fun _ _ _ _ _ _ us hl => match us, hl with | [_, _], _ => rfl) (fun vs H Q E h => ?_) (fun f cdv A outer s H vs Q E hr h => ?_)
  · obtain ⟨a, _, _, _, rfl, _⟩ := h
    rfl
  · obtain ⟨b, a, S, u, rfl, hB, hW, h1, h6, hT, hlt, h12, q⟩ := h
    have nd : (["bonds", "letters", "found", "letter", "row"] : List Str).Nodup := by decide +kernel
    have hu := hu_of hr
    refine ⟨_, pss_cons (ps_set (i := 2) nd rfl (.inl rfl) (pe_dispT1 hu (pe_c c1 hr (by decide) (by rfl) (pa_cons (pv 0) pa_nil)) pe_bl))
      (pss_cons (ps_for PassesOwn.never rfl (pi_tup (pv 1)) (pg_name (i := 3) nd rfl (.inl rfl))
        (pss_one (ps_for PassesOwn.never rfl (pi_list (pe_callTy (call_list_dT rfl) (by rfl) m1 boot_list (pa_cons (pv 2) pa_nil))) (pg_name (i := 4) nd rfl (.inl rfl))
          (pss_one (ps_dput hu (pv 2) (pe_c c2 hr (by decide) (by rfl) (pa_cons (pv 0) (pa_cons (pv 4) (pa_cons (pv 3) pa_nil)))) pe_bl rfl)))))
      (pss_one (ps_ret (pv 2)))), ?_⟩
    refine fun kd nkd => ⟨.ref b, rfl, b, S, rfl, hB.same (same_upd nkd), h1, h6, fun p H1 s1 hp => ?_⟩
    have k1 : H1 kd = some (.dT []) := s1 _ _ upd_same
    refine ⟨p, rk S.n rho, rfl, by rw [rk_kV]; exact hp, k1, ?_⟩
    have s2 : Same H (upd H1 kd (.dT [(rk S.n rho, .bl true)])) := fun x o e => by
      rw [upd_ne (ne_of_none e nkd)]
      exact Same.trans (same_upd nkd) s1 _ _ e
    have k2 : (upd H1 kd (.dT [(rk S.n rho, .bl true)])) kd = some (.dT ((rowsR S [] [rho]).map (rent S.n))) := upd_same
    generalize upd H1 kd (.dT [(rk S.n rho, .bl true)]) = H2 at s2 k2
    have bound : ∀ i, (rowsR S (u.take i) [rho]).length ≤ 4096 := fun i => by
      have z := rowsR_len (S := S) (u := u.take i) fun l hl => hlt l (List.mem_of_mem_take hl)
      have y : 2 ^ (u.take i).length ≤ 2 ^ 12 := Nat.pow_le_pow_right (by decide) (by rw [List.length_take]; omega)
      exact Nat.le_trans z y
    have big : 8192 < sizeLine := by decide
    refine ⟨.ref a, rfl, a, rfl, ⟨_, Same.tup s2 hT⟩, ?_⟩
    refine for_tup (xs := wv u) (fun i σ H3 => Same H H3 ∧ H3 kd = some (.dT ((rowsR S (u.take i) [rho]).map (rent S.n))) ∧ ∃ y3 y4 : Option V, σ = [some (.ref b), some (.ref a), some (.ref kd), y3, y4]) ⟨s2, k2, _, _, rfl⟩ (fun i σ H3 _ z => Same.tup z.1 hT) (fun i x σ H3 hx z => ?_) (fun σ H3 z => ?_)
    · obtain ⟨s3, k3, y3, y4, rfl⟩ := z
      obtain ⟨l, hl, rfl⟩ := wv_at hx
      have hln := hlt l (List.mem_of_getElem? hl)
      have hRs := rowsR_ok (S := S) (u := u.take i) (fun l hl => hlt l (List.mem_of_mem_take hl)) (rok_one S)
      have bd := bound i
      have enext : rowsR S (u.take (i + 1)) [rho] = nextR S l (rowsR S (u.take i) [rho]) := by
        rw [List.take_add_one, hl]
        exact rowsR_snoc S l _ _
      rw [enext]
      generalize rowsR S (u.take i) [rho] = Rs at k3 hRs bd
      refine ⟨.ref kd, rfl, kd, _, rfl, .inl k3, fun lp bs nlp hks => ?_⟩
      obtain ⟨hbl, hbk⟩ := Paired.atI hks
      rw [List.length_map] at hbl
      have sl := same_upd (o := .lst (bs.map V.ref)) nlp
      have nlk : lp ≠ kd := fun z => by rw [z, k3] at nlp; cases nlp
      refine ⟨lp, rfl, ⟨_, .inl (.inl upd_same)⟩, ?_⟩
      refine for_list (xs := bs.map V.ref) (fun m σ H4 => Same H H4 ∧ H4 kd = some (.dT ((accR S l Rs (Rs.take m)).map (rent S.n))) ∧ H4 lp = some (.lst (bs.map V.ref)) ∧ (∀ (j : Nat) (c : Addr) (r : Row), bs[j]? = some c → Rs[j]? = some r → H4 c = some (.tup (rv S.n r))) ∧
        ∃ y4 : Option V, σ = [some (.ref b), some (.ref a), some (.ref kd), some (.int ((l : Nat) + 1)), y4]) ⟨Same.trans s3 sl, sl _ _ k3, upd_same, fun j c r e1 e2 => ?_, _, rfl⟩ (fun m σ H4 _ z => .inl (.inl z.2.2.1)) (fun m x σ H4 hx z => ?_) (fun σ H4 z => ?_)
      · refine sl _ _ ?_
        have z := hbk j (rent S.n r) c (by rw [List.getElem?_map, e2]; rfl) e1
        rw [show (rent S.n r).1 = rk S.n r from rfl, rk_kV] at z
        exact z
      · obtain ⟨s4, k4, l4, t4, y4, rfl⟩ := z
        rw [List.getElem?_map, Option.map_eq_some_iff] at hx
        obtain ⟨c, hc, rfl⟩ := hx
        have hm : m < Rs.length := by rw [hbl]; exact (List.getElem?_eq_some_iff.mp hc).1
        obtain ⟨r, hr'⟩ : ∃ r, Rs[m]? = some r := ⟨Rs[m], List.getElem?_eq_getElem hm⟩
        refine ⟨.ref kd, rfl, .ref b, rfl, .ref c, rfl, .int ((l : Nat) + 1), rfl, b, c, S, r, l, rfl, hB.same s4, hW, h6, SqT.of (t4 m c r hc hr'), hln, fun p' H6 s6 hp' => ?_⟩
        have k6 := s6 _ _ k4
        have al : ((accR S l Rs (Rs.take m)).map (rent S.n)).length < sizeLine := by
          have z := (accR_ok hln hRs.1 (l := Rs.take m) fun r hr => hRs.1.2 r (List.mem_of_mem_take hr)).2.2
          rw [List.length_take] at z
          rw [List.length_map]
          omega
        refine ⟨kd, _, rfl, DPut.t (v := .bl true) k6 (by rw [rk_kV]; exact hp') al, ?_⟩
        rw [putK_row, ← accR_snoc]
        have et : Rs.take m ++ [r] = Rs.take (m + 1) := by rw [List.take_add_one, hr']; rfl
        rw [et]
        refine ⟨fun x o e => ?_, upd_same, ?_, fun j c' r' e1 e2 => ?_, _, rfl⟩
        · rw [upd_ne (ne_of_none e nkd)]
          exact s6 _ _ (s4 _ _ e)
        · rw [upd_ne nlk]
          exact s6 _ _ l4
        · have z := s6 _ _ (t4 j c' r' e1 e2)
          rw [upd_ne (fun y => by rw [y, k6] at z; cases z)]
          exact z
      · obtain ⟨s4, k4, _, _, y4, rfl⟩ := z
        rw [List.length_map, ← hbl, List.take_of_length_le (Nat.le_refl _)] at k4
        exact ⟨s4, k4, _, _, rfl⟩
    · obtain ⟨s3, k3, y3, y4, rfl⟩ := z
      rw [wv_len, List.take_of_length_le (Nat.le_refl _)] at k3
      exact ⟨.ref kd, rfl, q kd H3 s3 k3⟩
def spCountB (K : PySem.W.Frag) (C : Addr) : Sp := fun vs H Q _ => ∃ (b a : Addr) (S : Sys) (u : List Nat) (k : Nat), vs = [.ref b, .ref a] ∧ Bo K C H b S ∧ Wt S ∧ 1 ≤ S.n ∧ S.n ≤ 6 ∧ SqA K H a (wv u) ∧ u.length ≤ 60 ∧ (∀ l ∈ u, l < S.n) ∧ Reach S k (pr S.w u.reverse rho) ∧ k ≤ 12 ∧
  ∀ H', Same H H' → Q (.int ((rowsR S (lw S k (pr S.w u.reverse rho)) [rho]).length : Nat)) H'
theorem ok_count_below (G : GD K mg "count_below" s_count_below) (c1 : Cal P w K mg base 8 "listed" (spListed K C) []) (c2 : Cal P w K mg base 6 "rows_below" (spRowsB K C) []) (m1 : mg "len" = none) : Cal P w K mg base 9 "count_below" (spCountB K C) [] := by
  refine cal_of (N := ["bonds", "word"]) (ps := ["bonds", "word"]) G ⟨rfl, rfl, rfl, by decide +kernel, rfl, by decide +kernel, by decide +kernel⟩ (fun _ _ _ _ _ _ us hl => match us, hl with | [_, _], _ => rfl) (fun vs H Q E h => ?_) (fun f cdv A outer s H vs Q E hr h => ?_)
  · obtain ⟨a, _, _, _, _, rfl, _⟩ := h
    rfl
  · obtain ⟨b, a, S, u, k, rfl, hB, hW, h1, h6, hA, hl, hlt, hre, hk, q⟩ := h
    refine ⟨_, pss_one (ps_ret (pe_callB call_len_dT (by rfl) m1 boot_len (pa_cons (pe_c c2 hr (by decide) (by rfl) (pa_cons (pv 0) (pa_cons (pe_c c1 hr (by decide) (by rfl) (pa_cons (pv 0) (pa_cons (pv 1) pa_nil))) pa_nil))) pa_nil))), ?_⟩
    refine ⟨.ref b, rfl, .ref b, rfl, .ref a, rfl, b, a, S, u, k, rfl, hB, hW, h1, h6, hA, hl, hlt, hre, hk, fun p' H1 s1 hp => ?_⟩
    have hwW := lw_isW hre
    refine ⟨b, p', S, _, rfl, hB.same s1, hW, h1, h6, hp, hwW.lt, by rw [lw_len hre]; exact hk, fun d H2 s2 hd => ⟨d, _, rfl, hd, ?_⟩⟩
    rw [List.length_map]
    exact q H2 (Same.trans s1 s2)
end
end Bw
-- Bw5
set_option autoImplicit true
set_option maxRecDepth 512
set_option Elab.async false
set_option linter.all false
/-! Bw5: a system from a table of bonds. -/
namespace Bw
def kinds (x : Nat) : Prop := x = 2 ∨ x = 3 ∨ x = 4 ∨ x = 6 ∨ x = 0
def wLo (x : Nat) : Int := if x = 2 then 0 else if x = 0 then 2 else 1
def wHi (x : Nat) : Int := if x = 2 then 0 else if x = 3 then 1 else if x = 6 then 3 else 2
theorem kinds_kind {x : Nat} (h : kinds x) : Kind x (wLo x) (wHi x) := by
  rcases h with e | e | e | e | e <;> subst e
  · exact .inl ⟨rfl, rfl, rfl⟩
  · exact .inr (.inl ⟨rfl, rfl, rfl⟩)
  · exact .inr (.inr (.inl ⟨rfl, rfl, rfl⟩))
  · exact .inr (.inr (.inr (.inr (.inl ⟨rfl, rfl, rfl⟩))))
  · exact .inr (.inr (.inr (.inr (.inr (.inr ⟨rfl, rfl, rfl⟩)))))
def mkW (n : Nat) (T : Nat → Nat → Nat) (a b : Nat) : Int := if n ≤ a ∨ n ≤ b then 0 else if a = b then -2 else if a < b then wLo (T a b) else wHi (T a b)
structure GoodT (n : Nat) (T : Nat → Nat → Nat) : Prop where
  k : ∀ i j, i < n → j < n → i ≠ j → kinds (T i j)
  s : ∀ i j, i < n → j < n → T i j = T j i
def mkSys (n : Nat) (T : Nat → Nat → Nat) (h : GoodT n T) : Sys where
  n := n
  w := mkW n T
  m := T
  diag := fun a ha => by unfold mkW; rw [if_neg (by omega), if_pos rfl]
  kind := fun a b ha hb hab => by
    have hk := kinds_kind (h.k a b ha hb hab)
    have e := h.s a b ha hb
    have h1 : ¬ (n ≤ a ∨ n ≤ b) := by omega
    have h2 : ¬ (n ≤ b ∨ n ≤ a) := by omega
    unfold mkW
    rw [if_neg h1, if_neg h2, if_neg hab, if_neg (Ne.symm hab)]
    rcases Nat.lt_or_gt_of_ne hab with q | q
    · rw [if_pos q, if_neg (Nat.not_lt.mpr (Nat.le_of_lt q)), ← e]
      exact hk
    · rw [if_neg (Nat.not_lt.mpr (Nat.le_of_lt q)), if_pos q, ← e]
      exact hk.swap
  out := fun a c hc => by unfold mkW; rw [if_pos (by omega)]
theorem mkW_lt {n : Nat} {T : Nat → Nat → Nat} {a b : Nat} (hab : a < b) (hb : b < n) : mkW n T a b = wLo (T a b) := by
  unfold mkW
  rw [if_neg (by omega), if_neg (by omega), if_pos hab]
theorem mkW_gt {n : Nat} {T : Nat → Nat → Nat} {a b : Nat} (hab : a < b) (hb : b < n) : mkW n T b a = wHi (T b a) := by
  unfold mkW
  rw [if_neg (by omega), if_neg (by omega), if_neg (by omega)]
/-- one bond is changed -/
def setT (T : Nat → Nat → Nat) (a b x : Nat) : Nat → Nat → Nat := fun i j => if (i = a ∧ j = b) ∨ (i = b ∧ j = a) then x else T i j
theorem GoodT.set {n : Nat} {T : Nat → Nat → Nat} (h : GoodT n T) {a b x : Nat} (hx : kinds x) : GoodT n (setT T a b x) := by
  refine ⟨fun i j hi hj hij => ?_, fun i j hi hj => ?_⟩
  · unfold setT
    split
    · exact hx
    · exact h.k i j hi hj hij
  · unfold setT
    have e := h.s i j hi hj
    by_cases q : (i = a ∧ j = b) ∨ (i = b ∧ j = a)
    · rw [if_pos q, if_pos (q.elim (fun z => .inr ⟨z.2, z.1⟩) fun z => .inl ⟨z.2, z.1⟩)]
    · rw [if_neg q, if_neg (fun z => q (z.elim (fun y => .inr ⟨y.2, y.1⟩) fun y => .inl ⟨y.2, y.1⟩)), e]
theorem GoodT.const (n : Nat) {x : Nat} (h : kinds x) : GoodT n (fun _ _ => x) := ⟨fun _ _ _ _ _ => h, fun _ _ _ _ => rfl⟩
end Bw
-- WkW
set_option autoImplicit true
set_option maxRecDepth 512
set_option Elab.async false
set_option linter.all false
set_option maxRecDepth 100000
set_option maxHeartbeats 1000000
/-! WkW: _law_table. -/
namespace Bw
open PySem PySem.Spec PyProof.Rows L2 C8
def lcSc (st : Stmt) (i : Nat) : Scope := match (defBody st)[i]? with
  | some (.Assign _ (.ListComp _ _ sc _) _) => sc
  | _ => defScope st
def trow (n : Nat) (T : Nat → Nat → Nat) (i : Nat) : List V := (List.range n).map fun j => V.int (if i = j then 1 else (T i j : Int))
theorem trow_len (n : Nat) (T : Nat → Nat → Nat) (i : Nat) : (trow n T i).length = n := by unfold trow; rw [List.length_map, List.length_range]
theorem trow_set {n : Nat} {T : Nat → Nat → Nat} {a b x : Nat} (ha : a ≠ b) : (trow n T a).set b (V.int (x : Nat)) = trow n (setT T a b x) a := by
  refine List.ext_getElem? fun j => ?_
  rw [List.getElem?_set]
  unfold trow setT
  rw [List.getElem?_map, List.length_map, List.length_range, List.getElem?_map]
  by_cases hj : b = j
  · subst hj
    by_cases hn : b < n
    · rw [if_pos rfl, if_pos hn, List.getElem?_range hn]
      simp [ha]
    · rw [if_pos rfl, if_neg hn]
      rw [List.getElem?_eq_none (by rw [List.length_range]; omega)]
      rfl
  · rw [if_neg hj]
    cases h : (List.range n)[j]? with
    | none => rfl
    | some k =>
      have hk : k = j := by
        have := List.getElem?_eq_some_iff.mp h
        obtain ⟨h1, h2⟩ := this
        rw [List.getElem_range] at h2
        exact h2.symm
      subst hk
      have hc : ¬ ((a = a ∧ k = b) ∨ (a = b ∧ k = a)) := fun z => z.elim (fun y => hj y.2.symm) (fun y => ha y.1)
      show some (V.int (if a = k then 1 else (T a k : Int))) = some (V.int (if a = k then 1 else ((if (a = a ∧ k = b) ∨ (a = b ∧ k = a) then x else T a k : Nat) : Int)))
      rw [if_neg hc]
theorem setT_comm (T : Nat → Nat → Nat) (a b x : Nat) : setT T b a x = setT T a b x := by
  funext i j
  unfold setT
  by_cases h : (i = a ∧ j = b) ∨ (i = b ∧ j = a)
  · rw [if_pos h, if_pos h.symm]
  · rw [if_neg h, if_neg (fun z => h z.symm)]
theorem trow_off {n : Nat} {T : Nat → Nat → Nat} {a b x i : Nat} (ha : i ≠ a) (hb : i ≠ b) : trow n (setT T a b x) i = trow n T i := by
  unfold trow setT
  refine List.map_congr_left fun j _ => ?_
  have hc : ¬ ((i = a ∧ j = b) ∨ (i = b ∧ j = a)) := fun z => z.elim (fun y => ha y.1) (fun y => hb y.1)
  rw [if_neg hc]
/-- a table in the heap, a list of lists -/
def TbM (H : Hp) (p : Addr) (as : List Addr) (n : Nat) (T : Nat → Nat → Nat) : Prop := H p = some (.lst (as.map V.ref)) ∧ as.length = n ∧ as.Nodup ∧ p ∉ as ∧ ∀ (i : Nat) (b : Addr), as[i]? = some b → H b = some (.lst (trow n T i))
theorem TbM.keep {H H' : Hp} {p : Addr} {as : List Addr} {n : Nat} {T : Nat → Nat → Nat} (h : TbM H p as n T) (s : ∀ x o, (x = p ∨ x ∈ as) → H x = some o → H' x = some o) : TbM H' p as n T := by
  obtain ⟨h1, h2, h3, h4, h5⟩ := h
  exact ⟨s _ _ (.inl rfl) h1, h2, h3, h4, fun i b e => s _ _ (.inr (List.mem_of_getElem? e)) (h5 i b e)⟩
theorem TbM.same {H H' : Hp} {p : Addr} {as : List Addr} {n : Nat} {T : Nat → Nat → Nat} (h : TbM H p as n T) (s : Same H H') : TbM H' p as n T := h.keep fun x o _ e => s x o e
theorem TbM.tb {K : PySem.W.Frag} {H : Hp} {p : Addr} {as : List Addr} {n : Nat} {T : Nat → Nat → Nat} (h : TbM H p as n T) (hT : GoodT n T) : TbL K H p (mkSys n T hT) := by
  obtain ⟨h1, h2, h3, h4, h5⟩ := h
  exact ⟨as, h2, .inl (.inl h1), fun i b e => .inl (.inl (h5 i b e))⟩
/-- both places of a bond are written -/
theorem TbM.set {H : Hp} {p : Addr} {as : List Addr} {n : Nat} {T : Nat → Nat → Nat} {a b x : Nat} {pa pb : Addr} (h : TbM H p as n T) (ha : as[a]? = some pa) (hb : as[b]? = some pb) (hab : a ≠ b) :
    TbM (upd (upd H pa (.lst ((trow n T a).set b (V.int (x : Nat))))) pb (.lst ((trow n T b).set a (V.int (x : Nat))))) p as n (setT T a b x) := by
  obtain ⟨h1, h2, h3, h4, h5⟩ := h
  have ne : pa ≠ pb := fun z => by
    subst z
    exact hab ((List.getElem?_inj (List.getElem?_eq_some_iff.mp ha).1 h3).mp (ha.trans hb.symm))
  have npa : p ≠ pa := fun z => h4 (z ▸ List.mem_of_getElem? ha)
  have npb : p ≠ pb := fun z => h4 (z ▸ List.mem_of_getElem? hb)
  refine ⟨by rw [upd_ne npb, upd_ne npa]; exact h1, h2, h3, h4, fun i c hc => ?_⟩
  have inj : ∀ {j : Nat}, as[j]? = some c → i = j := fun hj => (List.getElem?_inj (List.getElem?_eq_some_iff.mp hc).1 h3).mp (hc.trans hj.symm)
  by_cases e1 : c = pb
  · subst e1
    have ei := inj hb
    subst ei
    rw [upd_same, trow_set (Ne.symm hab), setT_comm]
  · rw [upd_ne e1]
    by_cases e2 : c = pa
    · subst e2
      have ei := inj ha
      subst ei
      rw [upd_same, trow_set hab]
    · rw [upd_ne e2, h5 i c hc, trow_off (fun z => ?_) (fun z => ?_)]
      · subst z
        exact e2 (Option.some.inj (hc.symm.trans ha))
      · subst z
        exact e1 (Option.some.inj (hc.symm.trans hb))
end Bw
-- WkX
set_option autoImplicit true
set_option maxRecDepth 512
set_option Elab.async false
set_option linter.all false
set_option maxRecDepth 100000
set_option maxHeartbeats 2000000
/-! WkX: _law_table, its walk. -/
namespace Bw
open PySem PySem.Spec PyProof.Rows L2 C8
theorem trow_at {n : Nat} {T : Nat → Nat → Nat} {i k : Nat} (h : k < n) : (trow n T i)[k]? = some (V.int (if i = k then 1 else (T i k : Int))) := by
  unfold trow
  rw [List.getElem?_map, List.getElem?_range h]
  rfl
theorem pick8 : ∀ v : Nat, v < 8 → ∃ x : Nat, kinds x ∧ [V.int 2, .int 3, .int 3, .int 4, .int 6, .int 0, .int 2, .int 2][v]? = some (V.int (x : Nat))
  | 0, _ => ⟨2, .inl rfl, rfl⟩
  | 1, _ => ⟨3, .inr (.inl rfl), rfl⟩
  | 2, _ => ⟨3, .inr (.inl rfl), rfl⟩
  | 3, _ => ⟨4, .inr (.inr (.inl rfl)), rfl⟩
  | 4, _ => ⟨6, .inr (.inr (.inr (.inl rfl))), rfl⟩
  | 5, _ => ⟨0, .inr (.inr (.inr (.inr rfl))), rfl⟩
  | 6, _ => ⟨2, .inl rfl, rfl⟩
  | 7, _ => ⟨2, .inl rfl, rfl⟩
  | v + 8, h => absurd h (by omega)
theorem pick4 : ∀ v : Nat, v < 4 → ∃ x : Nat, kinds x ∧ [V.int 3, .int 4, .int 6, .int 0][v]? = some (V.int (x : Nat))
  | 0, _ => ⟨3, .inr (.inl rfl), rfl⟩
  | 1, _ => ⟨4, .inr (.inr (.inl rfl)), rfl⟩
  | 2, _ => ⟨6, .inr (.inr (.inr (.inl rfl))), rfl⟩
  | 3, _ => ⟨0, .inr (.inr (.inr (.inr rfl))), rfl⟩
  | v + 4, h => absurd h (by omega)
section
variable {P : Program} {w : World} {K : PySem.W.Frag} {mg : Str → Option Value} {base : Heap} {C CC : Addr}
def spTable : Sp := fun vs H Q _ => ∃ (m cl gr : Addr) (c most : Nat), vs = [.ref m, .int (most : Nat)] ∧ Ms H m cl gr c ∧ 1 ≤ most ∧ most ≤ 6 ∧ c < 90000 ∧
  ∀ (p : Addr) (as : List Addr) H' n T c', GoodT n T → SameM m gr H H' → Ms H' m cl gr c' → c' ≤ c + 40 → 1 ≤ n → n ≤ most → TbM H' p as n T → H p = none → (∀ b ∈ as, H b = none) → Q (.ref p) H'
end
end Bw
-- WkY
set_option autoImplicit true
set_option maxRecDepth 512
set_option Elab.async false
set_option linter.all false
set_option maxRecDepth 100000
set_option maxHeartbeats 2000000
/-! WkY: _law_weight, _law_press, _law_row, _law_below. -/
namespace Bw
open PySem PySem.Spec PyProof.Rows L2 C8
theorem TbL.row {K : PySem.W.Frag} {H : Hp} {a : Addr} {S : Sys} (h : TbL K H a S) : ∃ as : List Addr, as.length = S.n ∧ SqL K H a (as.map V.ref) ∧ ∀ i, i < S.n → ∃ b, (as.map V.ref)[i]? = some (V.ref b) ∧ SqL K H b ((List.range S.n).map fun j => V.int (tv S i j)) := by
  obtain ⟨as, e, h1, h2⟩ := h
  refine ⟨as, e, h1, fun i hi => ?_⟩
  have q : as[i]? = some (as[i]'(by omega)) := List.getElem?_eq_getElem (by omega)
  exact ⟨as[i]'(by omega), by rw [List.getElem?_map, q]; rfl, h2 i _ q⟩
theorem wt_cases {S : Sys} (hW : Wt S) {i j : Nat} (hi : i < S.n) (hj : j < S.n) (hij : i ≠ j) : ∃ x lo hi' : Int, tv S i j = x ∧ (if i < j then lo else hi') = S.w i j ∧ ((x = 2 ∧ lo = 0 ∧ hi' = 0) ∨ (x = 3 ∧ lo = 1 ∧ hi' = 1) ∨ (x = 4 ∧ lo = 1 ∧ hi' = 2) ∨ (x = 6 ∧ lo = 1 ∧ hi' = 3) ∨ (x = 0 ∧ lo = 2 ∧ hi' = 2)) := by
  have hk : S.m i j = 2 ∨ S.m i j = 3 ∨ S.m i j = 4 ∨ S.m i j = 6 ∨ S.m i j = 0 := by
    rcases S.kind i j hi hj hij with ⟨e, _⟩ | ⟨e, _⟩ | ⟨e, _⟩ | ⟨e, _⟩ | ⟨e, _⟩ | ⟨e, _⟩ | ⟨e, _⟩ <;> simp [e]
  have et : tv S i j = ((S.m i j : Nat) : Int) := by unfold tv; rw [if_neg hij]
  have key : ∀ lo hi' : Int, wts.lookup ((S.m i j : Nat) : Int) = some [lo, hi'] → (if i < j then lo else hi') = S.w i j := fun lo hi' h => by
    rcases Nat.lt_or_gt_of_ne hij with q | q
    · rw [if_pos q]
      have := hW i j q hj
      rw [h] at this
      have e := Option.some.inj this
      injection e with e1 _
    · rw [if_neg (Nat.not_lt.mpr (Nat.le_of_lt q))]
      have := hW j i q hi
      rw [S.msymm hj hi (Ne.symm hij), h] at this
      have e := Option.some.inj this
      injection e with _ e2
      injection e2 with e3 _
  rw [et]
  rcases hk with e | e | e | e | e
  · exact ⟨2, 0, 0, by rw [e]; rfl, key 0 0 (by rw [e]; rfl), .inl ⟨rfl, rfl, rfl⟩⟩
  · exact ⟨3, 1, 1, by rw [e]; rfl, key 1 1 (by rw [e]; rfl), .inr (.inl ⟨rfl, rfl, rfl⟩)⟩
  · exact ⟨4, 1, 2, by rw [e]; rfl, key 1 2 (by rw [e]; rfl), .inr (.inr (.inl ⟨rfl, rfl, rfl⟩))⟩
  · exact ⟨6, 1, 3, by rw [e]; rfl, key 1 3 (by rw [e]; rfl), .inr (.inr (.inr (.inl ⟨rfl, rfl, rfl⟩)))⟩
  · exact ⟨0, 2, 2, by rw [e]; rfl, key 2 2 (by rw [e]; rfl), .inr (.inr (.inr (.inr ⟨rfl, rfl, rfl⟩)))⟩
section
variable {P : Program} {w : World} {K : PySem.W.Frag} {mg : Str → Option Value} {base : Heap} {C CC : Addr}
def spLWeight (K : PySem.W.Frag) : Sp := fun vs H Q _ => ∃ (p : Addr) (S : Sys) (i j : Nat), vs = [.ref p, .int ((i : Nat) + 1), .int ((j : Nat) + 1)] ∧ TbL K H p S ∧ Wt S ∧ i < S.n ∧ j < S.n ∧ ∀ H', Same H H' → Q (.int (S.w i j)) H'
end
end Bw
-- WkZ
set_option autoImplicit true
set_option maxRecDepth 512
set_option Elab.async false
set_option linter.all false
set_option maxRecDepth 100000
set_option maxHeartbeats 2000000
/-! WkZ: _law_press, _law_row, _law_below, _law_least. -/
namespace Bw
open PySem PySem.Spec PyProof.Rows L2 C8
theorem ix_tupK (K : PySem.W.Frag) {X : Cx} (hK : X.K = K := by rfl) : IxR X (rIxT K) := by
  subst hK
  exact ix_tup
theorem ix_listK (K : PySem.W.Frag) {X : Cx} (hK : X.K = K := by rfl) : IxR X (rIxL K) := by
  subst hK
  exact ix_list
section
variable {P : Program} {w : World} {K : PySem.W.Frag} {mg : Str → Option Value} {base : Heap} {C CC : Addr}
def spLPress (K : PySem.W.Frag) : Sp := fun vs H Q _ => ∃ (p t : Addr) (S : Sys) (r : Row) (i : Nat), vs = [.ref p, .ref t, .int ((i : Nat) + 1)] ∧ TbL K H p S ∧ Wt S ∧ S.n ≤ 6 ∧ SqT K H t (rv S.n r) ∧ i < S.n ∧ ∀ p' H', Same H H' → H' p' = some (.tup (rv S.n (press S.w i r))) → Q (.ref p') H'
def spLRow (K : PySem.W.Frag) : Sp := fun vs H Q _ => ∃ (p a : Addr) (S : Sys) (u : List Nat), vs = [.ref p, .ref a] ∧ TbL K H p S ∧ Wt S ∧ 1 ≤ S.n ∧ S.n ≤ 6 ∧ SqT K H a (wv u) ∧ (∀ l ∈ u, l < S.n) ∧ ∀ p' H', Same H H' → H' p' = some (.tup (rv S.n (pr S.w u rho))) → Q (.ref p') H'
def spLBelow (K : PySem.W.Frag) : Sp := fun vs H Q _ => ∃ (p : Addr) (n : Nat) (r : Row), vs = [.ref p] ∧ n ≤ 6 ∧ SqT K H p (rv n r) ∧ ∀ p' H', Same H H' → H' p' = some (.lst (wv (bl n r))) → H p' = none → Q (.ref p') H'
end
end Bw
-- WmD
set_option autoImplicit true
set_option maxRecDepth 512
set_option Elab.async false
set_option linter.all false
set_option maxRecDepth 100000
set_option maxHeartbeats 2000000
/-! WmD: _law_table, _law_weight, _law_pressed. -/
namespace Bw
open PySem PySem.Spec PyProof.Rows L2 C8
theorem pick7 : ∀ v : Nat, v < 7 → ∃ x : Nat, kinds x ∧ [V.int 2, .int 2, .int 3, .int 3, .int 4, .int 6, .int 0][v]? = some (V.int (x : Nat))
  | 0, _ => ⟨2, .inl rfl, rfl⟩
  | 1, _ => ⟨2, .inl rfl, rfl⟩
  | 2, _ => ⟨3, .inr (.inl rfl), rfl⟩
  | 3, _ => ⟨3, .inr (.inl rfl), rfl⟩
  | 4, _ => ⟨4, .inr (.inr (.inl rfl)), rfl⟩
  | 5, _ => ⟨6, .inr (.inr (.inr (.inl rfl))), rfl⟩
  | 6, _ => ⟨0, .inr (.inr (.inr (.inr rfl))), rfl⟩
  | v + 7, h => absurd h (by omega)
/-- the bonds of the first a letters, and b of the next -/
def PT (T : Nat → Nat → Nat) (a b : Nat) : Prop := (∀ i j, T i j = T j i) ∧ ∀ i j, i < j → (j < a ∨ (j = a ∧ i < b)) → kinds (T i j)
theorem PT.step {T : Nat → Nat → Nat} {a b x : Nat} (h : PT T a b) (hx : kinds x) : PT (setT T a b x) a (b + 1) := by
  refine ⟨fun i j => ?_, fun i j hij hd => ?_⟩
  · unfold setT
    by_cases q : (i = a ∧ j = b) ∨ (i = b ∧ j = a)
    · rw [if_pos q, if_pos (q.elim (fun z => .inr ⟨z.2, z.1⟩) fun z => .inl ⟨z.2, z.1⟩)]
    · rw [if_neg q, if_neg (fun z => q (z.elim (fun y => .inr ⟨y.2, y.1⟩) fun y => .inl ⟨y.2, y.1⟩)), h.1]
  · unfold setT
    split
    · exact hx
    · rename_i q
      refine h.2 i j hij ?_
      rcases hd with z | ⟨z, y⟩
      · exact .inl z
      · refine .inr ⟨z, ?_⟩
        have : i ≠ b := fun e => q (.inr ⟨e, z⟩)
        omega
theorem PT.next {T : Nat → Nat → Nat} {a : Nat} (h : PT T a a) : PT T (a + 1) 0 := ⟨h.1, fun i j hij hd => h.2 i j hij (by rcases hd with z | ⟨_, y⟩ <;> omega)⟩
theorem PT.good {T : Nat → Nat → Nat} {n : Nat} (h : PT T n 0) : GoodT n T := by
  refine ⟨fun i j hi hj hij => ?_, fun i j _ _ => h.1 i j⟩
  rcases Nat.lt_or_gt_of_ne hij with q | q
  · exact h.2 i j q (.inl hj)
  · rw [h.1]
    exact h.2 j i q (.inl hi)
section
variable {P : Program} {w : World} {K : PySem.W.Frag} {mg : Str → Option Value} {base : Heap} {C CC : Addr}
def spTab (K : PySem.W.Frag) : Sp := fun vs H Q _ => ∃ (m cl gr l : Addr) (c n : Nat), vs = [.ref m, .int (n : Nat), .ref l] ∧ Ms H m cl gr c ∧ 1 ≤ n ∧ n ≤ 4 ∧ c < 90000 ∧ H l = some (.lst [.int 2, .int 2, .int 3, .int 3, .int 4, .int 6, .int 0]) ∧ l ≠ gr ∧
  ∀ (p : Addr) (as : List Addr) H' T c', GoodT n T → SameM m gr H H' → Ms H' m cl gr c' → c' ≤ c + 20 → TbM H' p as n T → H p = none → (∀ b ∈ as, H b = none) → Q (.ref p) H'
theorem ok_tab (G : GD K mg "_law_table" s_L_table) (cd : Cal P w K mg base 2 "_law_draw" spDraw []) (m1 : mg "range" = none) (m2 : mg "len" = none) : Cal P w K mg base 3 "_law_table" (spTab K) [] := by
  refine cal_of (N := ["m", "many", "some", "rows", "k", "one", "other", "bond_so"]) (ps := ["m", "many", "some"]) G ⟨rfl, rfl, rfl, by decide +kernel, rfl, by decide +kernel, by decide +kernel⟩ (fun _ _ _ _ _ _ us hl => match us, hl with | [_, _, _], _ => rfl) (fun vs H Q E h => ?_) (fun f cdv A outer s H vs Q E hr h => ?_)
  · obtain ⟨_, _, _, _, _, _, rfl, _⟩ := h
    rfl
  · obtain ⟨m, cl, gr, l, c, n, rfl, hM, hn1, hn4, hc, hl, hlg, q⟩ := h
    have nd : (["m", "many", "some", "rows", "k", "one", "other", "bond_so"] : List Str).Nodup := by decide +kernel
    refine ⟨_, pss_cut (ps_setLc (i := 3) (own := [("k", 4)]) (g := gName 4) (tt := tYes) rfl nd rfl rfl (sw_true rfl rfl rfl (by decide +kernel)) (pi_range1 (by rfl) m1 (pa_cons (pv 1) pa_nil)) (blkOk_by (own := [("k", 4)]) (N := ["m", "many", "some", "rows", "k", "one", "other", "bond_so"]) (sc := defScope s_L_table) (by decide +kernel))
          (fun _ _ _ _ _ => pg_name (i := 4) nd rfl (.inl rfl)) (fun _ _ _ _ _ => pts_nil) (fun _ _ _ _ _ => pe_op op_rep (pe_lst (pa_cons pe_int pa_nil)) (pv 1)))
      (pss_cons (ps_for PassesOwn.never rfl (pi_range1 (by rfl) m1 (pa_cons (pv 1) pa_nil)) (pg_name (i := 5) nd rfl (.inl rfl))
        (pss_one (ps_for PassesOwn.never rfl (pi_range1 (by rfl) m1 (pa_cons (pv 5) pa_nil)) (pg_name (i := 6) nd rfl (.inl rfl))
          (pss_cut (ps_set (i := 7) nd rfl (.inl rfl) (pe_ix ix_list (pv 2) (pe_c cd hr (by decide) (by rfl) (pa_cons (pv 0) (pa_cons (pe_callB call_len (by rfl) m2 boot_len (pa_cons (pv 2) pa_nil)) pa_nil))) (fun _ _ => rfl)))
          (pss_cons (ps_asg (pv 7) (pg_sub (pe_ix ix_list (pv 3) (pv 5) (fun _ _ => rfl)) (pv 6) set_list))
          (pss_one (ps_asg (pv 7) (pg_sub (pe_ix ix_list (pv 3) (pv 6) (fun _ _ => rfl)) (pv 5) set_list))))))))
      (pss_one (ps_ret (pv 3)))), ?_⟩
    refine ⟨fun σ H3 => ∃ (p : Addr) (as : List Addr), σ = [some (.ref m), some (.int (n : Nat)), some (.ref l), some (.ref p), none, none, none, none] ∧ Same H H3 ∧ TbM H3 p as n (fun _ _ => 1) ∧ H p = none ∧ ∀ b ∈ as, H b = none, ?_, fun σ H3 z => ?_⟩
    · refine ⟨.int (n : Nat), rfl, (n : Int), rfl, by omega, by omega, fun D nD => ?_⟩
      refine lc_range (lo := 0) (n := n) (fun i H3 => Same H H3 ∧ ∃ as : List Addr, H3 D = some (.lst (as.map V.ref)) ∧ as.length = i ∧ as.Nodup ∧ D ∉ as ∧ (∀ b ∈ as, H b = none) ∧ ∀ (j : Nat) (b : Addr), as[j]? = some b → H3 b = some (.lst (trow n (fun _ _ => 1) j)))
        ⟨same_upd nD, [], upd_same, rfl, List.nodup_nil, List.not_mem_nil, fun b hb => absurd hb List.not_mem_nil, fun j b hb => by cases hb⟩ (fun i H3 hi z => ?_) (fun H3 z => ?_)
      · obtain ⟨s3, as, eD, el, hnd, hDa, hfr, hrows⟩ := z
        refine ⟨rfl, (by show 1 ≤ sizeLine; decide), fun l1 nl1 => ⟨.int (n : Nat), rfl, l1, (n : Int), [.int 1], rfl, rfl, upd_same, by omega, by omega, (by show 1 * ((n : Nat) : Int).toNat ≤ sizeLine; have := (show 1000 < sizeLine by decide); omega), fun D2 nD2 => ?_⟩⟩
        have s4 := same_upd (o := .lst [.int 1]) nl1
        have s5 := same_upd (o := .lst (List.replicate ((n : Nat) : Int).toNat [V.int 1]).flatten) nD2
        have eD5 := s5 _ _ (s4 _ _ eD)
        have hfl : (List.replicate ((n : Nat) : Int).toNat [V.int 1]).flatten = trow n (fun _ _ => 1) i := by
          unfold trow
          rw [Int.toNat_natCast]
          have : ∀ k : Nat, (List.replicate k [V.int 1]).flatten = (List.range k).map fun _ => V.int 1 := fun k => by
            induction k with
            | zero => rfl
            | succ k ih =>
              rw [List.replicate_succ', List.flatten_append, ih, List.range_succ, List.map_append]
              rfl
          rw [this]
          exact List.map_congr_left fun j _ => by
            show V.int 1 = V.int (if i = j then 1 else ((1 : Nat) : Int))
            split <;> rfl
        have nDD : D ≠ D2 := ne_of_none (s4 _ _ eD) nD2
        have nH2 : H D2 = none := by
          cases e : H D2 with
          | none => rfl
          | some o => rw [s4 _ _ (s3 _ _ e)] at nD2; cases nD2
        have nD2a : ∀ b ∈ as, b ≠ D2 := fun b hb z => by
          obtain ⟨j, hj⟩ := List.getElem?_of_mem hb
          have := s4 _ _ (hrows j b hj)
          rw [z, nD2] at this
          cases this
        refine ⟨as.map V.ref, eD5, ?_, ?_, as ++ [D2], ?_, ?_, ?_, ?_, ?_, ?_⟩
        · rw [List.length_map]
          exact small1000 (by omega)
        · intro y o e
          rw [upd_ne (ne_of_none e nD)]
          exact s5 _ _ (s4 _ _ (s3 _ _ e))
        · rw [upd_same, List.map_append]; rfl
        · rw [List.length_append, el]; rfl
        · rw [List.nodup_append]
          refine ⟨hnd, by simp, fun a h1 b h2 => ?_⟩
          rw [List.mem_singleton.mp h2]
          exact nD2a a h1
        · intro hm
          rcases List.mem_append.mp hm with z | z
          · exact hDa z
          · exact nDD (List.mem_singleton.mp z)
        · intro b hb
          rcases List.mem_append.mp hb with z | z
          · exact hfr b z
          · rw [List.mem_singleton.mp z]
            exact nH2
        · intro j b hb
          by_cases hj : j < as.length
          · rw [List.getElem?_append_left hj] at hb
            rw [upd_ne (fun (z : b = D) => hDa (by rw [← z]; exact List.mem_of_getElem? hb))]
            exact s5 _ _ (s4 _ _ (hrows j b hb))
          · rw [List.getElem?_append_right (by omega)] at hb
            have h0 : j - as.length = 0 := by
              cases h0 : j - as.length with
              | zero => rfl
              | succ k => rw [h0] at hb; cases hb
            rw [h0] at hb
            obtain rfl : D2 = b := Option.some.inj hb
            have ej : j = i := by omega
            subst ej
            rw [upd_ne (Ne.symm nDD), upd_same, hfl]
      · obtain ⟨s3, as, eD, el, hnd, hDa, hfr, hrows⟩ := z
        exact ⟨D, as, rfl, s3, ⟨eD, el, hnd, hDa, hrows⟩, nD, hfr⟩
    obtain ⟨p, as, rfl, s3, hTb0, np, nas⟩ := z
    have fresh : ∀ x, (x = p ∨ x ∈ as) → H x = none := fun x hx => hx.elim (fun z => z ▸ np) (fun z => nas x z)
    have hM3 := hM.same s3
    have nm : ∀ x, (x = p ∨ x ∈ as) → x ≠ m ∧ x ≠ gr := fun x hx => by
      have := fresh x hx
      obtain ⟨_, _, e1, _, _, e2, _⟩ := hM
      exact ⟨(fun z => by rw [z, e1] at this; cases this), (fun z => by rw [z, e2] at this; cases this)⟩
    have hlm : l ≠ m := fun z => by
      obtain ⟨_, _, e1, _⟩ := hM
      rw [z, e1] at hl
      cases hl
    have keepL : ∀ {H' : Hp}, SameM m gr H H' → H' l = some (.lst [.int 2, .int 2, .int 3, .int 3, .int 4, .int 6, .int 0]) := fun s => s _ _ hlm hlg hl
    refine ⟨.int (n : Nat), rfl, (n : Int), rfl, by omega, by omega, for_range (lo := 0) (n := n) (fun i σ H4 => ∃ (T : Nat → Nat → Nat) (c' : Nat) (y4 y5 y6 y7 : Option V), σ = [some (.ref m), some (.int (n : Nat)), some (.ref l), some (.ref p), y4, y5, y6, y7] ∧ PT T i 0 ∧ SameM m gr H H4 ∧ Ms H4 m cl gr c' ∧ c' ≤ c + 4 * i ∧ TbM H4 p as n T)
      ⟨fun _ _ => 1, c, _, _, _, _, rfl, ⟨fun _ _ => rfl, fun i j _ hd => by rcases hd with z | ⟨_, z⟩ <;> omega⟩, Same.toM s3, hM3, by omega, hTb0⟩ (fun i σ H4 hi z => ?_) (fun σ H4 z => ?_)⟩
    · obtain ⟨T, c4, y4, y5, y6, y7, rfl, hT, s4, hM4, hc4, hTb⟩ := z
      refine ⟨.int (0 + (i : Nat)), rfl, 0 + (i : Nat), rfl, by omega, by omega, ?_⟩
      refine for_range (lo := 0) (n := ((0 : Int) + (i : Nat)).toNat) (fun k σ H5 => ∃ (T : Nat → Nat → Nat) (c' : Nat) (y6 y7 : Option V), σ = [some (.ref m), some (.int (n : Nat)), some (.ref l), some (.ref p), y4, some (.int (0 + (i : Nat))), y6, y7] ∧ PT T i k ∧ SameM m gr H H5 ∧ Ms H5 m cl gr c' ∧ c' ≤ c + 4 * i + k ∧ TbM H5 p as n T)
        ⟨T, c4, _, _, rfl, hT, s4, hM4, by omega, hTb⟩ (fun k σ H5 hk z => ?_) (fun σ H5 z => ?_)
      · obtain ⟨T, c5, y6, y7, rfl, hT, s5, hM5, hc5, hTb⟩ := z
        have hl5 := keepL s5
        have hki : k < i := by omega
        refine ⟨fun σ H6 => ∃ x : Nat, kinds x ∧ σ = [some (.ref m), some (.int (n : Nat)), some (.ref l), some (.ref p), y4, some (.int (0 + (i : Nat))), some (.int (0 + (k : Nat))), some (.int (x : Nat))] ∧ SameM m gr H5 H6 ∧ Ms H6 m cl gr (c5 + 1), ?_, fun σ H6 z => ?_⟩
        · refine ⟨.ref l, rfl, .ref m, rfl, .ref l, rfl, .ref l, 7, rfl, .inl ⟨_, .inl (.inl hl5), rfl⟩, m, cl, gr, c5, 7, rfl, hM5, by omega, by omega, by omega, fun v H7 hv s7 hM7 => ?_⟩
          obtain ⟨x, kx, ex⟩ := pick7 v hv
          exact ⟨l, _, _, .int (x : Nat), rfl, rfl, .inl (.inl (s7 _ _ hlm hlg hl5)), atI_nat ex, x, kx, rfl, s7, hM7⟩
        · obtain ⟨x, kx, rfl, s6, hM6⟩ := z
          have hTb6 : TbM H6 p as n T := hTb.keep fun y o hy e => s6 y o (nm y hy).1 (nm y hy).2 e
          obtain ⟨hp7, hl7, hn7, hpa7, hr7⟩ := id hTb6
          have ea : as[i]? = some (as[i]'(by omega)) := List.getElem?_eq_getElem (by omega)
          have eb : as[k]? = some (as[k]'(by omega)) := List.getElem?_eq_getElem (by omega)
          generalize as[i]'(by omega) = pa at ea
          generalize as[k]'(by omega) = pb at eb
          have qa : (as.map V.ref)[i]? = some (.ref pa) := by rw [List.getElem?_map, ea]; rfl
          have qb : (as.map V.ref)[k]? = some (.ref pb) := by rw [List.getElem?_map, eb]; rfl
          have hset := hTb6.set (x := x) ea eb (by omega)
          have ne : pa ≠ pb := fun z => by
            subst z
            have := (List.getElem?_inj (List.getElem?_eq_some_iff.mp ea).1 hn7).mp (ea.trans eb.symm)
            omega
          have npa : p ≠ pa := fun z => hpa7 (z ▸ List.mem_of_getElem? ea)
          have npb : p ≠ pb := fun z => hpa7 (z ▸ List.mem_of_getElem? eb)
          have ei : (0 : Int) + (i : Nat) = ((i : Nat) : Int) := by omega
          have ek : (0 : Int) + (k : Nat) = ((k : Nat) : Int) := by omega
          refine ⟨.int (x : Nat), rfl, .ref p, rfl, .int (0 + (i : Nat)), rfl, p, _, _, .ref pa, rfl, rfl, .inl (.inl hp7), atI_nat' ei qa, .int (0 + (k : Nat)), rfl, pa, _, _, k, rfl, rfl, hr7 i pa ea, ixN_nat ek (by rw [trow_len]; omega), ?_⟩
          refine ⟨.int (x : Nat), rfl, .ref p, rfl, .int (0 + (k : Nat)), rfl, p, _, _, .ref pb, rfl, rfl, .inl (.inl (by rw [upd_ne npa]; exact hp7)), atI_nat' ek qb, .int (0 + (i : Nat)), rfl, pb, _, _, i, rfl, rfl, (by rw [upd_ne (Ne.symm ne)]; exact hr7 _ pb eb), ixN_nat ei (by rw [trow_len]; omega), ?_⟩
          refine ⟨setT T i k x, c5 + 1, _, _, rfl, hT.step kx, ?_, ?_, by omega, hset⟩
          · intro y o n1 n2 e
            have h7 := s6 _ _ n1 n2 (s5 _ _ n1 n2 e)
            rw [upd_ne (fun z => by rw [z, nas pb (List.mem_of_getElem? eb)] at e; cases e), upd_ne (fun z => by rw [z, nas pa (List.mem_of_getElem? ea)] at e; cases e)]
            exact h7
          · obtain ⟨cs, gs, g1, g2, g3, g4, g5, g6⟩ := hM6
            have na := nm pa (.inr (List.mem_of_getElem? ea))
            have nb := nm pb (.inr (List.mem_of_getElem? eb))
            have nc : ∀ x, (x = p ∨ x ∈ as) → cl ≠ x := fun x hx z => by
              have h := fresh x hx
              obtain ⟨_, _, _, e, _⟩ := hM
              rw [← z, e] at h
              cases h
            refine ⟨cs, gs, ?_, ?_, g3, ?_, g5, g6⟩
            · rw [upd_ne (Ne.symm nb.1), upd_ne (Ne.symm na.1)]; exact g1
            · rw [upd_ne (nc pb (.inr (List.mem_of_getElem? eb))), upd_ne (nc pa (.inr (List.mem_of_getElem? ea)))]; exact g2
            · rw [upd_ne (Ne.symm nb.2), upd_ne (Ne.symm na.2)]; exact g4
      · obtain ⟨T, c5, y6, y7, rfl, hT, s5, hM5, hc5, hTb⟩ := z
        have ei : ((0 : Int) + (i : Nat)).toNat = i := by omega
        rw [ei] at hT hc5
        exact ⟨T, c5, _, _, _, _, rfl, hT.next, s5, hM5, by omega, hTb⟩
    · obtain ⟨T, c4, y4, y5, y6, y7, rfl, hT, s4, hM4, hc4, hTb⟩ := z
      exact ⟨.ref p, rfl, q p as H4 T c4 hT.good s4 hM4 (by omega) hTb np nas⟩
end
end Bw
-- WmE
set_option autoImplicit true
set_option maxRecDepth 512
set_option Elab.async false
set_option linter.all false
set_option maxRecDepth 100000
set_option maxHeartbeats 2000000
/-! WmE: min of a tuple; _law_weight, _law_pressed, _law_row. -/
namespace Bw
open PySem PySem.Spec PyProof.Rows L2 C8
/-- min(t), t a tuple of ints -/
def rMinT (K : PySem.W.Frag) : List V → Hp → VK → Prop := fun vs H Q => ∃ (a : Addr) (ns : List Int), vs = [V.ref a] ∧ SqT K H a (ns.map V.int) ∧ 0 < ns.length ∧ ∀ m, m ∈ ns → (∀ j ∈ ns, m ≤ j) → Q (.int m) H
theorem call_minT {X : Cx} (hc : X.calm = true) : CallR X (.builtin "min") (rMinT X.K) := by
  intro pins s σ H vs us Q I r h
  obtain ⟨a, ns, rfl, hs, hl, q⟩ := h
  rw [Vals.ref1 r]
  obtain ⟨its, rv, ht, hz⟩ := I.tuple hs
  have ha : a < s.heap.objs.size := by
    obtain ⟨o, ho, _⟩ := ht
    exact Heap.lt_size ho
  have ia := rv.ints
  have li : its.length = ns.length := by rw [← rv.length, List.length_map]
  have at_ : ∀ {us : List Value} {ks : List Int}, IntsAre us ks → ∀ (i : Nat) (v : Value), us[i]? = some v → ∃ t, v = Value.int (ks.getD i 0) t := by
    intro us ks h
    induction h with
    | nil => intro i v e; cases e
    | cons k t h ih =>
      intro i v e
      cases i with
      | zero =>
        cases e
        exact ⟨t, rfl⟩
      | succ i =>
        obtain ⟨t, e2⟩ := ih i v e
        exact ⟨t, e2⟩
  refine call_min_walk (wpAny_pyIter_tuple ht ?_)
  have sz : (s.heap.push { cls := .type "tuple_iterator", data := .fields #[.ref a, .int 0 0] }).objs.size = s.heap.objs.size + 1 := Heap.size_push ..
  refine ⟨_, _, _, _, _, _, _, rfl, Walks.tuple (A := X.A.in1) (I.ok.hd hc) s.heap.objs.size a (Nat.ne_of_lt ha) its.toArray, ⟨⟨_, Heap.get?_push_size _ rfl, rfl, rfl⟩, ht.push _⟩, fun b hb => ?_, by rw [List.size_toArray]; omega,
    CmpOf.ints_lt (fun i => ns.getD i 0) (fun i v e => at_ ia i v (by simpa using e)), fun v h' tk hP hk => ?_⟩
  · show b < (s.heap.push _).objs.size
    rw [Heap.size_push]
    rcases List.mem_cons.mp hb with e | hb
    · rw [e]
      exact Nat.lt_succ_self _
    · rw [List.mem_singleton.mp hb]
      exact Nat.lt_succ_of_lt ha
  · obtain ⟨t, rfl⟩ := at_ ia _ v (by rw [← Array.getElem?_toList] at hP; exact hP)
    rw [List.size_toArray]
    obtain ⟨b1, b2⟩ := argBest_lt (fun i => ns.getD i 0) (its.length - 1)
    refine ⟨.int _, H, I.kept (t' := tk) fun b u e => hk b u (fun hm => ?_) (Heap.get?_push_of_some _ e), ⟨t, rfl⟩, q _ ?_ fun j hj => ?_⟩
    · have e1 : b = s.heap.objs.size := List.mem_singleton.mp hm
      exact absurd (Heap.lt_size e) (by rw [e1]; exact Nat.lt_irrefl _)
    · have hb : argBest (fun i j => decide (ns.getD i 0 < ns.getD j 0)) (its.length - 1) < ns.length := by omega
      rw [List.getD_eq_getElem?_getD, List.getElem?_eq_getElem hb]
      exact List.getElem_mem hb
    · obtain ⟨i, hi, e⟩ := List.mem_iff_getElem.mp hj
      have e2 : ns.getD i 0 = j := by
        rw [List.getD_eq_getElem?_getD, List.getElem?_eq_getElem hi, ← e]
        rfl
      rw [← e2]
      exact b2 i (by omega)
section
variable {P : Program} {w : World} {K : PySem.W.Frag} {mg : Str → Option Value} {base : Heap} {C CC : Addr}
def spLW (K : PySem.W.Frag) : Sp := fun vs H Q _ => ∃ (p : Addr) (S : Sys) (i j : Nat), vs = [.ref p, .int ((i : Nat) + 1), .int ((j : Nat) + 1)] ∧ TbL K H p S ∧ Wt S ∧ i < S.n ∧ j < S.n ∧ i ≠ j ∧ ∀ H', Same H H' → Q (.int (S.w i j)) H'
theorem ok_lw (G : GD K mg "_law_weight" s_L_weight) : Cal P w K mg base 1 "_law_weight" (spLW K) [] := by
  refine cal_of (N := ["table", "one", "other", "pair"]) (ps := ["table", "one", "other"]) G ⟨rfl, rfl, rfl, by decide +kernel, rfl, by decide +kernel, by decide +kernel⟩ (fun _ _ _ _ _ _ us hl => match us, hl with | [_, _, _], _ => rfl) (fun vs H Q E h => ?_) (fun f cdv A outer s H vs Q E hr h => ?_)
  · obtain ⟨_, _, _, _, rfl, _⟩ := h
    rfl
  · obtain ⟨p, S, i, j, rfl, hT, hW, hi, hj, hij, q⟩ := h
    have nd : (["table", "one", "other", "pair"] : List Str).Nodup := by decide +kernel
    refine ⟨_, pss_cons (ps_set (i := 3) nd rfl (.inl rfl) (pe_dget (hu_of hr) (pe_disp (pps_cons pe_int (pe_tup (pa_cons pe_int (pa_cons pe_int pa_nil))) (pps_cons pe_int (pe_tup (pa_cons pe_int (pa_cons pe_int pa_nil))) (pps_cons pe_int (pe_tup (pa_cons pe_int (pa_cons pe_int pa_nil))) (pps_cons pe_int (pe_tup (pa_cons pe_int (pa_cons pe_int pa_nil))) (pps_cons pe_int (pe_tup (pa_cons pe_int (pa_cons pe_int pa_nil))) pps_nil))))) (by rfl) (by rfl) (fun z => by cases z) (by decide))
          (pe_ix ix_list (pe_ix ix_list (pv 0) (pe_op op_sub (pv 1) pe_int) (fun _ _ => rfl)) (pe_op op_sub (pv 2) pe_int) (fun _ _ => rfl)) (fun _ _ => rfl)))
      (pss_one (ps_ret (pe_ifExp (pt_cmpR op_lt (pv 1) (pv 2) (nomark _)) (pe_ix ix_tup (pv 3) pe_int (fun _ _ => rfl)) (pe_ix ix_tup (pv 3) pe_int (fun _ _ => rfl))))), ?_⟩
    have two : 2 ≤ sizeLine := by decide
    refine fun d nd0 => ⟨two, fun t1 n1 => ⟨two, fun t2 n2 => ⟨two, fun t3 n3 => ⟨two, fun t4 n4 => ⟨two, fun t5 n5 => ?_⟩⟩⟩⟩⟩
    have s0 : Same H (upd H d (.dK [])) := same_upd nd0
    have s1 := same_upd (o := .tup [.int 0, .int 0]) n1
    have s2 := same_upd (o := .tup [.int 1, .int 1]) n2
    have s3 := same_upd (o := .tup [.int 1, .int 2]) n3
    have s4 := same_upd (o := .tup [.int 1, .int 3]) n4
    have s5 := same_upd (o := .tup [.int 2, .int 2]) n5
    obtain ⟨H5, hH5⟩ : ∃ H5, H5 = upd (upd (upd (upd (upd (upd H d (.dK [])) t1 (.tup [.int 0, .int 0])) t2 (.tup [.int 1, .int 1])) t3 (.tup [.int 1, .int 2])) t4 (.tup [.int 1, .int 3])) t5 (.tup [.int 2, .int 2]) := ⟨_, rfl⟩
    have s15 : Same (upd H d (.dK [])) H5 := by rw [hH5]; exact Same.trans s1 (Same.trans s2 (Same.trans s3 (Same.trans s4 s5)))
    have h1 : H5 t1 = some (.tup [.int 0, .int 0]) := by rw [hH5]; exact (Same.trans s2 (Same.trans s3 (Same.trans s4 s5))) _ _ upd_same
    have h2 : H5 t2 = some (.tup [.int 1, .int 1]) := by rw [hH5]; exact (Same.trans s3 (Same.trans s4 s5)) _ _ upd_same
    have h3 : H5 t3 = some (.tup [.int 1, .int 2]) := by rw [hH5]; exact (Same.trans s4 s5) _ _ upd_same
    have h4 : H5 t4 = some (.tup [.int 1, .int 3]) := by rw [hH5]; exact s5 _ _ upd_same
    have h5 : H5 t5 = some (.tup [.int 2, .int 2]) := by rw [hH5]; exact upd_same
    rw [← hH5]
    have hd5 := s15 _ _ upd_same
    refine ⟨hd5, [(Sum.inl 2, .ref t1), (Sum.inl 3, .ref t2), (Sum.inl 4, .ref t3), (Sum.inl 6, .ref t4), (Sum.inl 0, .ref t5)], rfl, (by show 5 ≤ 15; decide), ?_⟩
    have eD : upd H5 d (.dK (mergeK [] [(Sum.inl 2, V.ref t1), (Sum.inl 3, .ref t2), (Sum.inl 4, .ref t3), (Sum.inl 6, .ref t4), (Sum.inl 0, .ref t5)])) = upd H5 d (.dK [((Sum.inl 2 : L2.Key), V.ref t1), (Sum.inl 3, .ref t2), (Sum.inl 4, .ref t3), (Sum.inl 6, .ref t4), (Sum.inl 0, .ref t5)]) := by
      congr 2
    rw [eD]
    have s6 : Same H (upd H5 d (.dK [((Sum.inl 2 : L2.Key), V.ref t1), (Sum.inl 3, .ref t2), (Sum.inl 4, .ref t3), (Sum.inl 6, .ref t4), (Sum.inl 0, .ref t5)])) := fun x o e => by
      rw [upd_ne (ne_of_none e nd0)]
      exact s15 _ _ (s0 _ _ e)
    obtain ⟨as, el, hA, hR⟩ := (hT.same s6).row
    obtain ⟨b, eb, hb⟩ := hR i hi
    refine ⟨.ref p, rfl, .int ((i : Nat) + 1), rfl, _, 1, rfl, rfl, p, _, _, .ref b, rfl, rfl, hA, atI_nat' (by omega) eb, .int ((j : Nat) + 1), rfl, _, 1, rfl, rfl, b, _, _, .int (tv S i j), rfl, rfl, hb, atI_nat' (by omega) (range_at hj), d, ?_⟩
    obtain ⟨x, lo, hi', ex, ew, hc⟩ := wt_cases hW hi hj hij
    rw [ex]
    obtain ⟨t, ht, hv⟩ : ∃ t, H5 t = some (.tup [.int lo, .int hi']) ∧ valV [((Sum.inl 2 : L2.Key), V.ref t1), (Sum.inl 3, .ref t2), (Sum.inl 4, .ref t3), (Sum.inl 6, .ref t4), (Sum.inl 0, .ref t5)] (Sum.inl x) = some (.ref t) := by
      rcases hc with ⟨e1, e2, e3⟩ | ⟨e1, e2, e3⟩ | ⟨e1, e2, e3⟩ | ⟨e1, e2, e3⟩ | ⟨e1, e2, e3⟩ <;> subst e1 e2 e3
      · exact ⟨t1, h1, rfl⟩
      · exact ⟨t2, h2, rfl⟩
      · exact ⟨t3, h3, rfl⟩
      · exact ⟨t4, h4, rfl⟩
      · exact ⟨t5, h5, rfl⟩
    have g : DGet (upd H5 d (.dK [((Sum.inl 2 : L2.Key), V.ref t1), (Sum.inl 3, .ref t2), (Sum.inl 4, .ref t3), (Sum.inl 6, .ref t4), (Sum.inl 0, .ref t5)])) d (.int x) (some (.ref t)) := by
      rw [← hv]
      exact DGet.k (k := Sum.inl x) upd_same
    have ht6 : (upd H5 d (.dK [((Sum.inl 2 : L2.Key), V.ref t1), (Sum.inl 3, .ref t2), (Sum.inl 4, .ref t3), (Sum.inl 6, .ref t4), (Sum.inl 0, .ref t5)])) t = some (.tup [.int lo, .int hi']) := by
      rw [upd_ne (fun z => by rw [z, hd5] at ht; cases ht)]
      exact ht
    have z := q _ s6
    refine ⟨_, rfl, g, ?_⟩
    refine ⟨.int ((i : Nat) + 1), rfl, .int ((j : Nat) + 1), rfl, _, _, rfl, rfl, _, rfl, ?_⟩
    rw [← ew] at z
    refine ite2 (fun e => ?_) (fun e => ?_)
    · have := of_decide_eq_true e
      rw [if_pos (by omega)] at z
      exact ⟨.ref t, rfl, t, _, 0, _, rfl, rfl, SqT.of ht6, atI_nat (j := 0) rfl, z⟩
    · have := of_decide_eq_false (Bool.eq_false_iff.mpr e)
      rw [if_neg (by omega)] at z
      exact ⟨.ref t, rfl, t, _, 1, _, rfl, rfl, SqT.of ht6, atI_nat (j := 1) rfl, z⟩
def spLP (K : PySem.W.Frag) : Sp := fun vs H Q _ => ∃ (p t : Addr) (S : Sys) (r : Row) (i : Nat), vs = [.ref p, .ref t, .int ((i : Nat) + 1)] ∧ TbL K H p S ∧ Wt S ∧ S.n ≤ 6 ∧ SqT K H t (rv S.n r) ∧ i < S.n ∧ ∀ p' H', Same H H' → H' p' = some (.tup (rv S.n (press S.w i r))) → Q (.ref p') H'
theorem ok_lp (G : GD K mg "_law_pressed" s_L_pressed) (c1 : Cal P w K mg base 1 "_law_weight" (spLW K) []) (m1 : mg "tuple" = none) (m2 : mg "range" = none) (m3 : mg "len" = none) : Cal P w K mg base 2 "_law_pressed" (spLP K) [] := by
  refine cal_of (N := ["table", "row", "letter", "number", "found", "other", "own"]) (ps := ["table", "row", "letter"]) G ⟨rfl, rfl, rfl, by decide +kernel, rfl, by decide +kernel, by decide +kernel⟩ (fun _ _ _ _ _ _ us hl => match us, hl with | [_, _, _], _ => rfl) (fun vs H Q E h => ?_) (fun f cdv A outer s H vs Q E hr h => ?_)
  · obtain ⟨_, _, _, _, _, rfl, _⟩ := h
    rfl
  · obtain ⟨p, t, S, r, i, rfl, hT, hW, h6, ht, hi, q⟩ := h
    have nd : (["table", "row", "letter", "number", "found", "other", "own"] : List Str).Nodup := by decide +kernel
    refine ⟨_, pss_cons (ps_set (i := 3) nd rfl (.inl rfl) (pe_ix ix_tup (pv 1) (pe_op op_sub (pv 2) pe_int) (fun _ _ => rfl)))
      (pss_cons (ps_set (i := 4) nd rfl (.inl rfl) (pe_lst pa_nil))
      (pss_cons (ps_for PassesOwn.never rfl (pi_range2 (by rfl) m2 (pa_cons pe_int (pa_cons (pe_op op_add (pe_callB call_len (by rfl) m3 boot_len (pa_cons (pv 1) pa_nil)) pe_int) pa_nil))) (pg_name (i := 5) nd rfl (.inl rfl))
        (pss_cons (ps_set (i := 6) nd rfl (.inl rfl) (pe_ix ix_tup (pv 1) (pe_op op_sub (pv 5) pe_int) (fun _ _ => rfl)))
        (pss_one (ps_expr (pe_bm PySem.F.plainAttrs_list PySem.F.slot_list_append PySem.F.type_list_append mt_append (pv 4) (pa_cons (pe_ifExp (pt_cmpR op_eq (pv 5) (pv 2) (nomark _)) (pe_op op_sub pe_int (pv 3)) (pe_op op_add (pv 6) (pe_op op_mul (pe_c c1 hr (by decide) (by rfl) (pa_cons (pv 0) (pa_cons (pv 2) (pa_cons (pv 5) pa_nil)))) (pv 3)))) pa_nil))))))
      (pss_one (ps_ret (pe_callTy call_tupOf (by rfl) m1 boot_tuple (pa_cons (pv 4) pa_nil)))))), ?_⟩
    refine ⟨.ref t, rfl, .int ((i : Nat) + 1), rfl, _, 1, rfl, rfl, t, _, _, _, rfl, rfl, ht, atI_nat' (by omega) (rv_at hi), Nat.zero_le _, fun D nD => ?_⟩
    have sD := same_upd (o := .lst []) nD
    refine ⟨.ref t, rfl, .ref t, S.n, rfl, .inr ⟨_, Same.tup sD ht, by rw [rv_len]⟩, _, 1, rfl, rfl, 1, (S.n : Nat) + 1, rfl, ⟨by omega, by omega, by omega, by omega⟩, ?_⟩
    refine for_range (lo := 1) (n := (((S.n : Nat) : Int) + 1 - 1).toNat) (fun j σ H2 => Same H H2 ∧ H2 D = some (.lst ((rv S.n (press S.w i r)).take j)) ∧ ∃ y5 y6 : Option V, σ = [some (.ref p), some (.ref t), some (.int ((i : Nat) + 1)), some (.int (r i)), some (.ref D), y5, y6]) ⟨sD, upd_same, _, _, rfl⟩ (fun j σ H2 hj z => ?_) (fun σ H2 z => ?_)
    · obtain ⟨s2, eD, y5, y6, rfl⟩ := z
      have hjn : j < S.n := by omega
      refine ⟨.ref t, rfl, .int (1 + (j : Nat)), rfl, _, 1, rfl, rfl, t, _, _, .int (r j), rfl, rfl, Same.tup s2 ht, atI_nat' (by omega) (rv_at hjn), ?_⟩
      refine ⟨.ref D, rfl, .inl ⟨rfl, _, .inl (.inl eD)⟩, .int (1 + (j : Nat)), rfl, .int ((i : Nat) + 1), rfl, rfl, _, rfl, ?_⟩
      have fin : ∀ (x : Int) (H3 : Hp), Same H2 H3 → x = press S.w i r j → ∃ l xs v, V.ref D = V.ref l ∧ [V.int x] = [v] ∧ H3 l = some (.lst xs) ∧ xs.length < sizeLine ∧ (Same H (upd H3 l (.lst (xs ++ [v]))) ∧ (upd H3 l (.lst (xs ++ [v]))) D = some (.lst ((rv S.n (press S.w i r)).take (j + 1))) ∧
          ∃ y5' y6' : Option V, [some (V.ref p), some (.ref t), some (.int ((i : Nat) + 1)), some (.int (r i)), some (.ref D), some (.int (1 + (j : Nat))), some (.int (r j))] = [some (V.ref p), some (.ref t), some (.int ((i : Nat) + 1)), some (.int (r i)), some (.ref D), y5', y6']) := fun x H3 s3 hx => by
        refine ⟨D, _, _, rfl, rfl, s3 _ _ eD, ?_, ?_, ?_, _, _, rfl⟩
        · rw [List.length_take]
          exact small1000 (by omega)
        · intro y o e
          rw [upd_ne (ne_of_none e nD)]
          exact s3 _ _ (s2 _ _ e)
        · rw [upd_same, take_snoc (rv_at hjn), hx]
      refine ite2 (fun e => ?_) (fun e => ?_)
      · have ej : j = i := by
          have := V.int.inj (of_decide_eq_true e)
          omega
        subst ej
        refine ⟨.int (r j), rfl, 0, r j, rfl, rfl, ?_⟩
        exact fin _ H2 (fun _ _ e => e) (by rw [press_self hi]; omega)
      · have hij : i ≠ j := fun z => e (decide_eq_true (by rw [z]; exact congrArg V.int (by omega)))
        refine ⟨.int (r j), rfl, .ref p, rfl, .int ((i : Nat) + 1), rfl, .int (1 + (j : Nat)), rfl, p, S, i, j, ?_, hT.same s2, hW, hi, hjn, hij, fun H3 s3 => ?_⟩
        · exact congrArg (fun z : Int => [V.ref p, .int ((i : Nat) + 1), .int z]) (show (1 : Int) + (j : Nat) = (j : Nat) + 1 by omega)
        · refine ⟨.int (r i), rfl, _, _, rfl, rfl, .inl (w_small hi hjn), _, _, rfl, rfl, ?_⟩
          exact fin _ H3 s3 rfl
    · obtain ⟨s2, eD, y5, y6, rfl⟩ := z
      rw [List.take_of_length_le (by rw [rv_len]; omega)] at eD
      exact ⟨.ref D, rfl, D, _, rfl, .inl ⟨.inl (.inl eD), fun l nl => q l _ (Same.trans s2 (same_upd nl)) upd_same⟩⟩
def spLR (K : PySem.W.Frag) : Sp := fun vs H Q _ => ∃ (p a : Addr) (S : Sys) (u : List Nat), vs = [.ref p, .ref a] ∧ TbL K H p S ∧ Wt S ∧ 1 ≤ S.n ∧ S.n ≤ 6 ∧ SqL K H a (wv u) ∧ (∀ l ∈ u, l < S.n) ∧ ∀ p' H', Same H H' → H' p' = some (.tup (rv S.n (pr S.w u rho))) → Q (.ref p') H'
theorem ok_lr (G : GD K mg "_law_row" s_L_row) (c2 : Cal P w K mg base 2 "_law_pressed" (spLP K) []) (m1 : mg "len" = none) : Cal P w K mg base 3 "_law_row" (spLR K) [] := by
  refine cal_of (N := ["table", "word", "row", "letter"]) (ps := ["table", "word"]) G ⟨rfl, rfl, rfl, by decide +kernel, rfl, by decide +kernel, by decide +kernel⟩ (fun _ _ _ _ _ _ us hl => match us, hl with | [_, _], _ => rfl) (fun vs H Q E h => ?_) (fun f cdv A outer s H vs Q E hr h => ?_)
  · obtain ⟨_, _, _, _, rfl, _⟩ := h
    rfl
  · obtain ⟨p, a, S, u, rfl, hT, hW, h1, h6, hA, hlt, q⟩ := h
    have nd : (["table", "word", "row", "letter"] : List Str).Nodup := by decide +kernel
    refine ⟨_, pss_cons (ps_set (i := 2) nd rfl (.inl rfl) (pe_op op_repN (pe_tup (pa_cons pe_int pa_nil)) (pe_callB call_len (by rfl) m1 boot_len (pa_cons (pv 0) pa_nil))))
        (pss_cons (ps_for PassesOwn.never rfl (pi_list (pv 1)) (pg_name (i := 3) nd rfl (.inl rfl)) (pss_one (ps_set (i := 2) nd rfl (.inl rfl) (pe_c c2 hr (by decide) (by rfl) (pa_cons (pv 0) (pa_cons (pv 2) (pa_cons (pv 3) pa_nil)))))))
        (pss_one (ps_ret (pv 2)))), ?_⟩
    refine ⟨(by show 1 ≤ sizeLine; decide), fun t nt => ⟨.ref p, rfl, .ref p, S.n, rfl, (hT.same (same_upd nt)).len, t, S.n, .int 1, rfl, rfl, upd_same, h1, by omega, fun p0 H1 s1 hp0 => ?_⟩⟩
    have s01 := Same.trans (same_upd nt) s1
    have hp0' : H1 p0 = some (.tup (rv S.n rho)) := by
      rw [hp0]
      unfold rv rho
      rw [List.map_const', List.length_range]
    refine ⟨.ref a, rfl, a, rfl, ⟨_, s01.seq hA⟩, ?_⟩
    refine for_list (xs := wv u) (fun i σ H2 => Same H H2 ∧ ∃ pp y, σ = [some (.ref p), some (.ref a), some (.ref pp), y] ∧ H2 pp = some (.tup (rv S.n (pr S.w (u.take i) rho)))) ⟨s01, p0, _, rfl, hp0'⟩ (fun i σ H2 _ z => z.1.seq hA) (fun i x σ H2 hx z => ?_) (fun σ H2 z => ?_)
    · obtain ⟨s2, pp, y, rfl, hp⟩ := z
      obtain ⟨l, hl, rfl⟩ := wv_at hx
      refine ⟨.ref p, rfl, .ref pp, rfl, .int ((l : Nat) + 1), rfl, p, pp, S, _, l, rfl, hT.same s2, hW, h6, SqT.of hp, hlt l (List.mem_of_getElem? hl), fun p' H3 s3 hp' => ⟨Same.trans s2 s3, p', _, rfl, ?_⟩⟩
      rw [pr_take hl]
      exact hp'
    · obtain ⟨s2, pp, y, rfl, hp⟩ := z
      rw [wv_len, List.take_of_length_le (Nat.le_refl _)] at hp
      exact ⟨.ref pp, rfl, q pp H2 s2 hp⟩
end
end Bw
-- WmF
set_option autoImplicit true
set_option maxRecDepth 512
set_option Elab.async false
set_option linter.all false
set_option maxRecDepth 100000
set_option maxHeartbeats 2000000
/-! WmF: _law_back, _law_least, _law_word. -/
namespace Bw
open PySem PySem.Spec PyProof.Rows L2 C8
theorem min_neg {S : Sys} {k : Nat} {r : Row} {m : Int} (hk : Reach S k r) (h1 : m ∈ (List.range S.n).map r) (h2 : ∀ j ∈ (List.range S.n).map r, m ≤ j) : (m < 0) ↔ 0 < k := by
  constructor
  · intro h
    obtain ⟨i, hi, e⟩ := List.mem_map.mp h1
    obtain ⟨j, ej, _⟩ := hk.dn (List.mem_range.mp hi) (by omega)
    omega
  · intro h
    obtain ⟨k', rfl⟩ : ∃ k', k = k' + 1 := ⟨k - 1, by omega⟩
    obtain ⟨a, ha, hn, _⟩ := hk.neg
    have := h2 (r a) (List.mem_map_of_mem (List.mem_range.mpr ha))
    omega
def muB (k : Nat) (σ : L2.St) (H : Hp) : Nat := match σ[2]? with
  | some (some (V.ref D)) => (match H D with
    | some (.lst xs) => k - xs.length
    | _ => 0)
  | _ => 0
section
variable {P : Program} {w : World} {K : PySem.W.Frag} {mg : Str → Option Value} {base : Heap} {C CC : Addr}
def spBack (K : PySem.W.Frag) : Sp := fun vs H Q _ => ∃ (p t : Addr) (S : Sys) (k : Nat) (r : Row), vs = [.ref p, .ref t] ∧ TbL K H p S ∧ Wt S ∧ 1 ≤ S.n ∧ S.n ≤ 6 ∧ SqT K H t (rv S.n r) ∧ Reach S k r ∧ k ≤ 500 ∧ ∀ p' H', Same H H' → H' p' = some (.lst (wv (lw S k r))) → H p' = none → Q (.ref p') H'
theorem ok_back (G : GD K mg "_law_back" s_L_back) (c1 : Cal P w K mg base 2 "_law_pressed" (spLP K) []) (m1 : mg "min" = none) (m2 : mg "range" = none) (m3 : mg "len" = none) : Cal P w K mg base 3 "_law_back" (spBack K) [] := by
  refine cal_of (N := ["table", "row", "found", "letter", "place"]) (ps := ["table", "row"]) G ⟨rfl, rfl, rfl, by decide +kernel, rfl, by decide +kernel, by decide +kernel⟩ (fun _ _ _ _ _ _ us hl => match us, hl with | [_, _], _ => rfl) (fun vs H Q E h => ?_) (fun f cdv A outer s H vs Q E hr h => ?_)
  · obtain ⟨_, _, _, _, _, rfl, _⟩ := h
    rfl
  · obtain ⟨p, t, S, k, r, rfl, hT, hW, h1, h6, ht, hk, hk5, q⟩ := h
    have nd : (["table", "row", "found", "letter", "place"] : List Str).Nodup := by decide +kernel
    refine ⟨_, pss_cons (ps_set (i := 2) nd rfl (.inl rfl) (pe_lst pa_nil))
      (pss_cons (ps_while PassesOwn.never (pt_cmpR op_lt (pe_callB (call_minT rfl) (by rfl) m1 (by decide +kernel) (pa_cons (pv 1) pa_nil)) pe_int (nomark _))
        (pss_cons (ps_set (i := 3) nd rfl (.inl rfl) (pe_ix ix_list (pe_lc (own := [("place", 4)]) (g := gName 4) (by rfl) nd (pi_range1 (by rfl) m2 (pa_cons (pe_callB call_len (by rfl) m3 boot_len (pa_cons (pv 1) pa_nil)) pa_nil)) (blkOk_by (own := [("place", 4)]) (N := ["table", "row", "found", "letter", "place"]) (sc := defScope s_L_back) (by decide +kernel))
            (fun _ _ _ _ _ => pg_name (i := 4) nd rfl (.inl rfl)) (fun _ _ _ _ _ => pts_one (pt_cmpR op_lt (pe_ix (ix_tupK K) (pv 1) (pv 4) (fun _ _ => rfl)) pe_int (nomark _))) (fun _ _ _ _ _ => pe_op op_add (pv 4) pe_int)) pe_int (fun _ _ => rfl)))
        (pss_cons (ps_expr (pe_bm PySem.F.plainAttrs_list PySem.F.slot_list_append PySem.F.type_list_append mt_append (pv 2) (pa_cons (pv 3) pa_nil)))
        (pss_one (ps_set (i := 1) nd rfl (.inr rfl) (pe_c c1 hr (by decide) (by rfl) (pa_cons (pv 0) (pa_cons (pv 1) (pa_cons (pv 3) pa_nil)))))))))
      (pss_one (ps_ret (pv 2)))), ?_⟩
    refine ⟨Nat.zero_le _, fun D nD => ?_⟩
    have sD := same_upd (o := .lst []) nD
    refine while_by (fun σ H2 => ∃ (i : Nat) (t2 : Addr) (y3 y4 : Option V), i ≤ k ∧ σ = [some (.ref p), some (.ref t2), some (.ref D), y3, y4] ∧ Same H H2 ∧ H2 D = some (.lst (wv ((lw S k r).take i))) ∧ SqT K H2 t2 (rv S.n (pr S.w ((lw S k r).take i) r)))
      (muB k) ⟨0, t, _, _, Nat.zero_le _, rfl, sD, upd_same, Same.tup sD ht⟩ (fun σ H2 z => ?_) (fun σ H Q Q' hm z => ?_)
    · obtain ⟨i, t2, y3, y4, hi, rfl, s2, eD, ht2⟩ := z
      obtain ⟨hreach, hstep⟩ := lw_at hk i hi
      have hlen : ((lw S k r).take i).length = i := by rw [List.length_take, lw_len hk]; omega
      refine ⟨.ref t2, rfl, t2, (List.range S.n).map (pr S.w ((lw S k r).take i) r), rfl, by rw [← rv_ints]; exact ht2, by rw [List.length_map, List.length_range]; omega, fun m m1 m2 => ?_⟩
      have hmn := min_neg hreach m1 m2
      refine ⟨m, 0, rfl, rfl, _, rfl, ?_⟩
      by_cases hik : i < k
      · obtain ⟨a, l, eb, ea, han⟩ := hstep hik
        rw [decide_eq_true (hmn.mpr (by omega))]
        refine ⟨.ref t2, rfl, .ref t2, S.n, rfl, .inr ⟨_, ht2, by rw [rv_len]⟩, (S.n : Int), rfl, by omega, by omega, fun B nB => ?_⟩
        have sB := same_upd (o := .lst []) nB
        refine lc_range (lo := 0) (n := S.n) (fun j H3 => H3 B = some (.lst (wv (bl j (pr S.w ((lw S k r).take i) r)))) ∧ Same H2 H3) ⟨upd_same, sB⟩ (fun j H3 hj z => ?_) (fun H3 z => ?_)
        · obtain ⟨eB, s3⟩ := z
          refine ⟨rfl, .ref t2, rfl, .int (0 + (j : Nat)), rfl, t2, _, _, .int (pr S.w ((lw S k r).take i) r j), rfl, rfl, Same.tup s3 ht2, atI_nat' (by omega) (rv_at hj), _, 0, rfl, rfl, _, rfl, ?_⟩
          by_cases hn : pr S.w ((lw S k r).take i) r j < 0
          · rw [decide_eq_true hn]
            refine ⟨.int (0 + (j : Nat)), rfl, _, 1, rfl, rfl, _, eB, ?_, ?_, ?_⟩
            · rw [wv_len]
              exact small1000 (by have := bl_le j (pr S.w ((lw S k r).take i) r); omega)
            · rw [upd_same, bl_succ, if_pos hn]
              unfold wv
              rw [List.map_append]
              exact congrArg (fun z : Int => some (HO.lst (List.map (fun (l : Nat) => V.int ((l : Nat) + 1)) (bl j (pr S.w ((lw S k r).take i) r)) ++ [V.int z]))) (show (0 : Int) + (j : Nat) + 1 = (j : Nat) + 1 by omega)
            · intro x o e
              rw [upd_ne (ne_of_none e nB)]
              exact s3 _ _ e
          · rw [decide_eq_false hn]
            refine ⟨?_, s3⟩
            rw [bl_succ, if_neg hn]
            exact eB
        · obtain ⟨eB, s3⟩ := z
          rw [eb] at eB
          have eD3 := s3 _ _ eD
          refine ⟨B, _, 0, _, rfl, rfl, .inl (.inl eB), atI_nat (j := 0) rfl, ?_⟩
          refine ⟨.ref D, rfl, .inl ⟨rfl, _, .inl (.inl eD3)⟩, .int ((a : Nat) + 1), rfl, D, _, _, rfl, rfl, eD3, small1000 (by rw [wv_len, hlen]; omega), ?_⟩
          have s4 : Same H (upd H3 D (.lst (wv ((lw S k r).take i) ++ [.int ((a : Nat) + 1)]))) := fun b' o e => by
            rw [upd_ne (ne_of_none e nD)]
            exact s3 _ _ (s2 _ _ e)
          have etk : wv ((lw S k r).take (i + 1)) = wv ((lw S k r).take i) ++ [.int ((a : Nat) + 1)] := by
            unfold wv
            rw [List.take_add_one, ea, List.map_append]
            rfl
          refine ⟨.ref p, rfl, .ref t2, rfl, .int ((a : Nat) + 1), rfl, p, t2, S, _, a, rfl, hT.same s4, hW, h6, SqT.updL (Same.tup s3 ht2) eD3, han, fun t8 H8 s8 ht8 => ⟨⟨i + 1, t8, _, _, hik, rfl, Same.trans s4 s8, ?_, ?_⟩, ?_⟩⟩
          · rw [etk]
            exact s8 _ _ upd_same
          · rw [pr_take ea r]
            exact SqT.of ht8
          · show (match H8 D with | some (.lst xs) => k - xs.length | _ => 0) < (match H2 D with | some (.lst xs) => k - xs.length | _ => 0)
            rw [eD, show H8 D = _ from s8 _ _ upd_same]
            show k - (wv ((lw S k r).take i) ++ [V.int ((a : Nat) + 1)]).length < k - (wv ((lw S k r).take i)).length
            rw [List.length_append, wv_len, hlen]
            show k - (i + 1) < k - i
            omega
      · rw [decide_eq_false (fun z => by have := hmn.mp z; omega)]
        have hik2 : i = k := by omega
        subst hik2
        rw [List.take_of_length_le (by rw [lw_len hk]; exact Nat.le_refl _)] at eD
        exact ⟨.ref D, rfl, q D H2 s2 eD nD⟩
    · obtain ⟨x, e, a, ns, e1, h1', h2', q'⟩ := z
      refine ⟨x, e, a, ns, e1, h1', h2', fun m m1 m2 => ?_⟩
      obtain ⟨i, j, e2, e3, c, ec, q3⟩ := q' m m1 m2
      exact ⟨i, j, e2, e3, c, ec, hm _ _ q3⟩
def spLL (K : PySem.W.Frag) : Sp := fun vs H Q _ => ∃ (p a : Addr) (S : Sys) (u : List Nat) (k : Nat), vs = [.ref p, .ref a] ∧ TbL K H p S ∧ Wt S ∧ 1 ≤ S.n ∧ S.n ≤ 6 ∧ SqL K H a (wv u) ∧ (∀ l ∈ u, l < S.n) ∧ Reach S k (pr S.w u.reverse rho) ∧ k ≤ 500 ∧ ∀ t H', Same H H' → SqT K H' t (wv (lw S k (pr S.w u.reverse rho))) → Q (.ref t) H'
theorem ok_ll (G : GD K mg "_law_least" s_L_least) (c1 : Cal P w K mg base 3 "_law_back" (spBack K) []) (c2 : Cal P w K mg base 3 "_law_row" (spLR K) []) (m1 : mg "tuple" = none) (m2 : mg "list" = none) : Cal P w K mg base 4 "_law_least" (spLL K) [] := by
  refine cal_of (N := ["table", "word"]) (ps := ["table", "word"]) G ⟨rfl, rfl, rfl, by decide +kernel, rfl, by decide +kernel, by decide +kernel⟩ (fun _ _ _ _ _ _ us hl => match us, hl with | [_, _], _ => rfl) (fun vs H Q E h => ?_) (fun f cdv A outer s H vs Q E hr h => ?_)
  · obtain ⟨_, _, _, _, _, rfl, _⟩ := h
    rfl
  · obtain ⟨p, a, S, u, k, rfl, hT, hW, h1, h6, hA, hlt, hre, hk, q⟩ := h
    refine ⟨_, pss_one (ps_ret (pe_callTy call_tupOf (by rfl) m1 boot_tuple (pa_cons (pe_c c1 hr (by decide) (by rfl) (pa_cons (pv 0) (pa_cons (pe_c c2 hr (by decide) (by rfl) (pa_cons (pv 0) (pa_cons (pe_revL (pe_callTy call_list_of (by rfl) m2 boot_list (pa_cons (pv 1) pa_nil))) pa_nil))) pa_nil))) pa_nil))), ?_⟩
    refine ⟨.ref p, rfl, .ref p, rfl, .ref a, rfl, a, _, rfl, .inl hA, fun l nl => ⟨l, wv u, rfl, .inl (.inl upd_same), fun l2 nl2 => ?_⟩⟩
    have s1 := same_upd (o := .lst (wv u)) nl
    have s2 := same_upd (o := .lst (wv u).reverse) nl2
    have s12 := Same.trans s1 s2
    refine ⟨p, l2, S, u.reverse, rfl, hT.same s12, hW, h1, h6, .inl (.inl (by rw [upd_same, wv_rev])), fun l hl => hlt l (List.mem_reverse.mp hl), fun p' H' s3 hp' => ?_⟩
    have s13 := Same.trans s12 s3
    refine ⟨p, p', S, k, _, rfl, hT.same s13, hW, h1, h6, SqT.of hp', hre, hk, fun D H4 s4 hD nD => ?_⟩
    exact ⟨D, _, rfl, .inl ⟨.inl (.inl hD), fun t nt => q t _ (Same.trans s13 (Same.trans s4 (same_upd nt))) (.inl (.inl upd_same))⟩⟩
def spLWd : Sp := fun vs H Q _ => ∃ (m cl gr : Addr) (c n most : Nat), vs = [.ref m, .int (n : Nat), .int (most : Nat)] ∧ Ms H m cl gr c ∧ 1 ≤ n ∧ n ≤ 6 ∧ most ≤ 9 ∧ c < 90000 ∧
  ∀ (t : Addr) H' (u : List Nat) c', SameM m gr H H' → Ms H' m cl gr c' → c' ≤ c + 10 → u.length ≤ most → (∀ l ∈ u, l < n) → H' t = some (.lst (wv u)) → H t = none → Q (.ref t) H'
theorem ok_lwd (G : GD K mg "_law_word" s_L_word) (cd : Cal P w K mg base 2 "_law_draw" spDraw []) (m1 : mg "range" = none) : Cal P w K mg base 3 "_law_word" spLWd [] := by
  refine cal_of (N := ["m", "many", "most", "k"]) (ps := ["m", "many", "most"]) G ⟨rfl, rfl, rfl, by decide +kernel, rfl, by decide +kernel, by decide +kernel⟩ (fun _ _ _ _ _ _ us hl => match us, hl with | [_, _, _], _ => rfl) (fun vs H Q E h => ?_) (fun f cdv A outer s H vs Q E hr h => ?_)
  · obtain ⟨_, _, _, _, _, _, rfl, _⟩ := h
    rfl
  · obtain ⟨m, cl, gr, c, n, most, rfl, hM, h1, h6, h9, hc, q⟩ := h
    have nd : (["m", "many", "most", "k"] : List Str).Nodup := by decide +kernel
    refine ⟨_, pss_one (ps_ret (pe_lc (own := [("k", 3)]) (g := gName 3) (tt := tYes) (by rfl) nd (pi_range1 (by rfl) m1 (pa_cons (pe_c cd hr (by decide) (by rfl) (pa_cons (pv 0) (pa_cons (pe_op op_add (pv 2) pe_int) pa_nil))) pa_nil)) (blkOk_by (own := [("k", 3)]) (N := ["m", "many", "most", "k"]) (sc := defScope s_L_word) (by decide +kernel))
        (fun _ _ _ _ _ => pg_name (i := 3) nd rfl (.inl rfl)) (fun _ _ _ _ _ => pts_nil) (fun _ _ _ _ _ => pe_op op_add pe_int (pe_c cd hr (by decide) (by rfl) (pa_cons (pv 0) (pa_cons (pv 1) pa_nil)))))), ?_⟩
    refine ⟨.ref m, rfl, .int (most : Nat), rfl, _, 1, rfl, rfl, m, cl, gr, c, most + 1, ?_, hM, by omega, by omega, by omega, fun v H1 hv s1 hM1 => ?_⟩
    · exact congrArg (fun z : Int => [V.ref m, .int z]) (Int.natCast_add most 1).symm
    refine ⟨(v : Int), rfl, by omega, by omega, fun D nD => ?_⟩
    have nDH : H D = none := by
      cases e : H D with
      | none => rfl
      | some o =>
        obtain ⟨_, _, e1, _, _, e2, _⟩ := hM1
        rw [s1 _ _ (fun z => by rw [z, e1] at nD; cases nD) (fun z => by rw [z, e2] at nD; cases nD) e] at nD
        cases nD
    have nDm : D ≠ m ∧ D ≠ gr ∧ D ≠ cl := by
      obtain ⟨_, _, e1, e3, _, e2, _⟩ := hM1
      exact ⟨(fun z => by rw [z, e1] at nD; cases nD), (fun z => by rw [z, e2] at nD; cases nD), (fun z => by rw [z, e3] at nD; cases nD)⟩
    have sD := same_upd (o := .lst []) nD
    refine lc_range (lo := 0) (n := v) (fun j H2 => ∃ u : List Nat, u.length = j ∧ (∀ l ∈ u, l < n) ∧ H2 D = some (.lst (wv u)) ∧ SameM m gr H H2 ∧ Ms H2 m cl gr (c + 1 + j)) ⟨[], rfl, fun l hl => absurd hl List.not_mem_nil, upd_same, s1.trans (Same.toM sD), hM1.same sD⟩ (fun j H2 hj z => ?_) (fun H2 z => ?_)
    · obtain ⟨u, hu, hlt, eD, s2, hM2⟩ := z
      refine ⟨rfl, .ref m, rfl, .int (n : Nat), rfl, m, cl, gr, c + 1 + j, n, rfl, hM2, by omega, by omega, by omega, fun x H3 hx s3 hM3 => ?_⟩
      have eD3 := s3 _ _ nDm.1 nDm.2.1 eD
      refine ⟨1, (x : Int), rfl, rfl, _, eD3, by rw [wv_len]; exact small1000 (by omega), u ++ [x], by rw [List.length_append, hu]; rfl, fun l hl => ?_, ?_, ?_, ?_⟩
      · rcases List.mem_append.mp hl with z | z
        · exact hlt l z
        · rw [List.mem_singleton.mp z]
          exact hx
      · rw [upd_same]
        unfold wv
        rw [List.map_append]
        exact congrArg (fun z : Int => some (HO.lst (List.map (fun (l : Nat) => V.int ((l : Nat) + 1)) u ++ [V.int z]))) (show (1 : Int) + (x : Nat) = (x : Nat) + 1 by omega)
      · intro y o n1 n2 e
        rw [upd_ne (ne_of_none e nDH)]
        exact s3 _ _ n1 n2 (s2 _ _ n1 n2 e)
      · obtain ⟨cs, gs, g1, g2, g3, g4, g5, g6⟩ := hM3
        exact ⟨cs, gs, by rw [upd_ne (Ne.symm nDm.1)]; exact g1, by rw [upd_ne (Ne.symm nDm.2.2)]; exact g2, g3, by rw [upd_ne (Ne.symm nDm.2.1)]; exact g4, g5, g6⟩
    · obtain ⟨u, hu, hlt, eD, s2, hM2⟩ := z
      exact q D H2 u _ s2 hM2 (by omega) (by omega) hlt eD nDH
end
end Bw
-- WmG
set_option autoImplicit true
set_option maxRecDepth 512
set_option Elab.async false
set_option linter.all false
set_option maxRecDepth 100000
set_option maxHeartbeats 2000000
/-! WmG: _law_rows_by, _law_under. -/
namespace Bw
open PySem PySem.Spec PyProof.Rows L2 C8
/-- a list of tuples of ints -/
def LsT (K : PySem.W.Frag) (H : Hp) (l : Addr) (L : List (List Int)) : Prop := ∃ ks : List (Addr × List Int), ks.map (·.2) = L ∧ H l = some (.lst (ks.map fun q => V.ref q.1)) ∧ ∀ q ∈ ks, SqT K H q.1 (q.2.map V.int)
theorem LsT.same {K : PySem.W.Frag} {H H' : Hp} {l : Addr} {L : List (List Int)} (h : LsT K H l L) (s : Same H H') : LsT K H' l L := by
  obtain ⟨ks, e, hl, q⟩ := h
  exact ⟨ks, e, s _ _ hl, fun p hp => Same.tup s (q p hp)⟩
theorem sorted_map {ks : List (Addr × List Int)} (h : ks.Pairwise (fun q r => lexI r.2 q.2 = false)) : (ks.map (·.2)).Pairwise (fun a b => lexI b a = false) := by
  rw [List.pairwise_map]
  exact h
theorem rvi_ne {n : Nat} (h : 1 ≤ n) (r : Row) : rvi n r ≠ [] := fun e => by
  have := congrArg List.length e
  unfold rvi at this
  rw [List.length_map, List.length_range] at this
  have z : ([] : List Int).length = 0 := rfl
  omega
section
variable {P : Program} {w : World} {K : PySem.W.Frag} {mg : Str → Option Value} {base : Heap} {C CC : Addr}
def spRowsBy (K : PySem.W.Frag) : Sp := fun vs H Q _ => ∃ (p a : Addr) (S : Sys) (u : List Nat), vs = [.ref p, .ref a] ∧ TbL K H p S ∧ Wt S ∧ 1 ≤ S.n ∧ S.n ≤ 6 ∧ SqT K H a (wv u) ∧ (∀ l ∈ u, l < S.n) ∧ u.length ≤ 12 ∧
  ∀ l H' L, Same H H' → DueL S u L → LsT K H' l L → Q (.ref l) H'
theorem ok_rows_by (G : GD K mg "_law_rows_by" s_L_rows_by) (c2 : Cal P w K mg base 2 "_law_pressed" (spLP K) []) (m1 : mg "list" = none) (m2 : mg "len" = none) (m3 : mg "sorted" = none) : Cal P w K mg base 3 "_law_rows_by" (spRowsBy K) [] := by
  refine cal_of (N := ["table", "word", "found", "letter", "row"]) (ps := ["table", "word"]) G ⟨rfl, rfl, rfl, by decide +kernel, rfl, by decide +kernel, by decide +kernel⟩ (fun _ _ _ _ _ _ us hl => match us, hl with | [_, _], _ => rfl) (fun vs H Q E h => ?_) (fun f cdv A outer s H vs Q E hr h => ?_)
  · obtain ⟨a, _, _, _, rfl, _⟩ := h
    rfl
  · obtain ⟨tb, a, S, u, rfl, hTb, hW, h1, h6, hT, hlt, h12, q⟩ := h
    have nd : (["table", "word", "found", "letter", "row"] : List Str).Nodup := by decide +kernel
    have hu := hu_of hr
    refine ⟨_, pss_cons (ps_set (i := 2) nd rfl (.inl rfl) (pe_dispT1 hu (pe_op op_repN (pe_tup (pa_cons pe_int pa_nil)) (pe_callB call_len (by rfl) m2 boot_len (pa_cons (pv 0) pa_nil))) pe_bl))
      (pss_cons (ps_for PassesOwn.never rfl (pi_tup (pv 1)) (pg_name (i := 3) nd rfl (.inl rfl))
        (pss_one (ps_for PassesOwn.never rfl (pi_list (pe_callTy (call_list_dT rfl) (by rfl) m1 boot_list (pa_cons (pv 2) pa_nil))) (pg_name (i := 4) nd rfl (.inl rfl))
          (pss_one (ps_dput hu (pv 2) (pe_c c2 hr (by decide) (by rfl) (pa_cons (pv 0) (pa_cons (pv 4) (pa_cons (pv 3) pa_nil)))) pe_bl rfl)))))
      (pss_one (ps_ret (pe_callB (call_sortDT rfl) (by rfl) m3 (by decide +kernel) (pa_cons (pv 2) pa_nil))))), ?_⟩
    refine fun kd nkd => ⟨(by show 1 ≤ sizeLine; decide), fun t nt => ⟨.ref tb, rfl, .ref tb, S.n, rfl, (hTb.same (Same.trans (same_upd nkd) (same_upd nt))).len, t, S.n, .int 1, rfl, rfl, upd_same, h1, by omega, fun p H1 s1 hp => ?_⟩⟩
    have s01 := Same.trans (same_upd (o := .tup [.int 1]) nt) s1
    have hp' : H1 p = some (.tup (rv S.n rho)) := by
      rw [hp]
      unfold rv rho
      rw [List.map_const', List.length_range]
    have k1 : H1 kd = some (.dT []) := s01 _ _ upd_same
    refine ⟨p, rk S.n rho, rfl, by rw [rk_kV]; exact hp', k1, ?_⟩
    have s2 : Same H (upd H1 kd (.dT [(rk S.n rho, .bl true)])) := fun x o e => by
      rw [upd_ne (ne_of_none e nkd)]
      exact Same.trans (same_upd nkd) s01 _ _ e
    have k2 : (upd H1 kd (.dT [(rk S.n rho, .bl true)])) kd = some (.dT ((rowsR S [] [rho]).map (rent S.n))) := upd_same
    generalize upd H1 kd (.dT [(rk S.n rho, .bl true)]) = H2 at s2 k2
    have bound : ∀ i, (rowsR S (u.take i) [rho]).length ≤ 4096 := fun i => by
      have z := rowsR_len (S := S) (u := u.take i) fun l hl => hlt l (List.mem_of_mem_take hl)
      have y : 2 ^ (u.take i).length ≤ 2 ^ 12 := Nat.pow_le_pow_right (by decide) (by rw [List.length_take]; omega)
      exact Nat.le_trans z y
    have big : 8192 < sizeLine := by decide
    refine ⟨.ref a, rfl, a, rfl, ⟨_, Same.tup s2 hT⟩, ?_⟩
    refine for_tup (xs := wv u) (fun i σ H3 => Same H H3 ∧ H3 kd = some (.dT ((rowsR S (u.take i) [rho]).map (rent S.n))) ∧ ∃ y3 y4 : Option V, σ = [some (.ref tb), some (.ref a), some (.ref kd), y3, y4]) ⟨s2, k2, _, _, rfl⟩ (fun i σ H3 _ z => Same.tup z.1 hT) (fun i x σ H3 hx z => ?_) (fun σ H3 z => ?_)
    · obtain ⟨s3, k3, y3, y4, rfl⟩ := z
      obtain ⟨l, hl, rfl⟩ := wv_at hx
      have hln := hlt l (List.mem_of_getElem? hl)
      have hRs := rowsR_ok (S := S) (u := u.take i) (fun l hl => hlt l (List.mem_of_mem_take hl)) (rok_one S)
      have bd := bound i
      have enext : rowsR S (u.take (i + 1)) [rho] = nextR S l (rowsR S (u.take i) [rho]) := by
        rw [List.take_add_one, hl]
        exact rowsR_snoc S l _ _
      rw [enext]
      generalize rowsR S (u.take i) [rho] = Rs at k3 hRs bd
      refine ⟨.ref kd, rfl, kd, _, rfl, .inl k3, fun lp bs nlp hks => ?_⟩
      obtain ⟨hbl, hbk⟩ := Paired.atI hks
      rw [List.length_map] at hbl
      have sl := same_upd (o := .lst (bs.map V.ref)) nlp
      have nlk : lp ≠ kd := fun z => by rw [z, k3] at nlp; cases nlp
      refine ⟨lp, rfl, ⟨_, .inl (.inl upd_same)⟩, ?_⟩
      refine for_list (xs := bs.map V.ref) (fun m σ H4 => Same H H4 ∧ H4 kd = some (.dT ((accR S l Rs (Rs.take m)).map (rent S.n))) ∧ H4 lp = some (.lst (bs.map V.ref)) ∧ (∀ (j : Nat) (c : Addr) (r : Row), bs[j]? = some c → Rs[j]? = some r → H4 c = some (.tup (rv S.n r))) ∧
        ∃ y4 : Option V, σ = [some (.ref tb), some (.ref a), some (.ref kd), some (.int ((l : Nat) + 1)), y4]) ⟨Same.trans s3 sl, sl _ _ k3, upd_same, fun j c r e1 e2 => ?_, _, rfl⟩ (fun m σ H4 _ z => .inl (.inl z.2.2.1)) (fun m x σ H4 hx z => ?_) (fun σ H4 z => ?_)
      · refine sl _ _ ?_
        have z := hbk j (rent S.n r) c (by rw [List.getElem?_map, e2]; rfl) e1
        rw [show (rent S.n r).1 = rk S.n r from rfl, rk_kV] at z
        exact z
      · obtain ⟨s4, k4, l4, t4, y4, rfl⟩ := z
        rw [List.getElem?_map, Option.map_eq_some_iff] at hx
        obtain ⟨c, hc, rfl⟩ := hx
        have hm : m < Rs.length := by rw [hbl]; exact (List.getElem?_eq_some_iff.mp hc).1
        obtain ⟨r, hr'⟩ : ∃ r, Rs[m]? = some r := ⟨Rs[m], List.getElem?_eq_getElem hm⟩
        refine ⟨.ref kd, rfl, .ref tb, rfl, .ref c, rfl, .int ((l : Nat) + 1), rfl, tb, c, S, r, l, rfl, hTb.same s4, hW, h6, SqT.of (t4 m c r hc hr'), hln, fun p' H6 s6 hp' => ?_⟩
        have k6 := s6 _ _ k4
        have al : ((accR S l Rs (Rs.take m)).map (rent S.n)).length < sizeLine := by
          have z := (accR_ok hln hRs.1 (l := Rs.take m) fun r hr => hRs.1.2 r (List.mem_of_mem_take hr)).2.2
          rw [List.length_take] at z
          rw [List.length_map]
          omega
        refine ⟨kd, _, rfl, DPut.t (v := .bl true) k6 (by rw [rk_kV]; exact hp') al, ?_⟩
        rw [putK_row, ← accR_snoc]
        have et : Rs.take m ++ [r] = Rs.take (m + 1) := by rw [List.take_add_one, hr']; rfl
        rw [et]
        refine ⟨fun x o e => ?_, upd_same, ?_, fun j c' r' e1 e2 => ?_, _, rfl⟩
        · rw [upd_ne (ne_of_none e nkd)]
          exact s6 _ _ (s4 _ _ e)
        · rw [upd_ne nlk]
          exact s6 _ _ l4
        · have z := s6 _ _ (t4 j c' r' e1 e2)
          rw [upd_ne (fun y => by rw [y, k6] at z; cases z)]
          exact z
      · obtain ⟨s4, k4, _, _, y4, rfl⟩ := z
        rw [List.length_map, ← hbl, List.take_of_length_le (Nat.le_refl _)] at k4
        exact ⟨s4, k4, _, _, rfl⟩
    · obtain ⟨s3, k3, y3, y4, rfl⟩ := z
      rw [wv_len, List.take_of_length_le (Nat.le_refl _)] at k3
      refine ⟨.ref kd, rfl, kd, _, (rowsR S u [rho]).map (rvi S.n), rfl, k3, ?_, fun ns hns => ?_, fun ks' lp hp1 ht1 hs1 nlp => ?_⟩
      · rw [List.map_map, List.map_map]
        exact List.map_congr_left fun r _ => rk_rvi S.n r
      · obtain ⟨r, _, rfl⟩ := List.mem_map.mp hns
        exact rvi_ne h1 r
      · have s4 := same_upd (o := .lst (ks'.map fun q => V.ref q.1)) nlp
        exact q lp _ _ (Same.trans s3 s4) (DueL.rows hlt hp1 (sorted_map hs1)) ⟨ks', rfl, upd_same, fun p hp => Same.tup s4 (SqT.of (ht1 p hp))⟩
/-- _law_under -/
def spLU (K : PySem.W.Frag) : Sp := fun vs H Q _ => ∃ (p a : Addr) (S : Sys) (u : List Nat) (k : Nat), vs = [.ref p, .ref a] ∧ TbL K H p S ∧ Wt S ∧ 1 ≤ S.n ∧ S.n ≤ 6 ∧ SqL K H a (wv u) ∧ (∀ l ∈ u, l < S.n) ∧ Reach S k (pr S.w u.reverse rho) ∧ k ≤ 8 ∧
  ∀ l H' L, Same H H' → H l = none → DueL S (lw S k (pr S.w u.reverse rho)) L → LsT K H' l L → Q (.ref l) H'
theorem due_zero (S : Sys) : DueL S [] [rvi S.n rho] := by
  refine ⟨by simp, by simp, fun ns => ?_⟩
  rw [List.mem_singleton]
  constructor
  · intro e
    exact ⟨rho, sb_nil.mpr rfl, e⟩
  · rintro ⟨r, hr, e⟩
    rw [← sb_nil.mp hr] at e
    exact e
/-- pressed, on lists of ints -/
def prI (S : Sys) (l : Nat) (ns : List Int) : List Int := (List.range S.n).map (press S.w l fun c => ns.getD c 0)
theorem prI_rvi {S : Sys} {l : Nat} (hl : l < S.n) (r : Row) : prI S l (rvi S.n r) = rvi S.n (press S.w l r) := by
  unfold prI
  have g : ∀ c, c < S.n → (rvi S.n r).getD c 0 = r c := fun c hc => by
    unfold rvi
    rw [List.getD_eq_getElem?_getD, List.getElem?_map, List.getElem?_range hc]
    rfl
  refine List.map_congr_left fun c hc => ?_
  have hc' := List.mem_range.mp hc
  show (rvi S.n r).getD c 0 + S.w l c * (rvi S.n r).getD l 0 = r c + S.w l c * r l
  rw [g c hc', g l hl]
theorem sb_snoc {S : Sys} {v : List Nat} {l : Nat} {x : Row} : Sb S (v ++ [l]) rho x ↔ Sb S v rho x ∨ ∃ r, Sb S v rho r ∧ x = press S.w l r := by
  rw [sb_append]
  constructor
  · rintro ⟨t, h1, h2⟩
    rcases sb_one.mp h2 with e | e
    · subst e
      exact .inl h1
    · exact .inr ⟨t, h1, e⟩
  · rintro (h | ⟨r, h, e⟩)
    · exact ⟨x, h, sb_one.mpr (.inl rfl)⟩
    · exact ⟨r, h, sb_one.mpr (.inr e)⟩
theorem due_more {S : Sys} {v : List Nat} {l : Nat} {M : List (List Int)} (h : DueL S v M) (hl : l < S.n) (ns : List Int) : (ns ∈ M ∨ ∃ x ∈ M, ns = prI S l x) ↔ ∃ r, Sb S (v ++ [l]) rho r ∧ ns = rvi S.n r := by
  constructor
  · rintro (z | ⟨x, hx, e⟩)
    · obtain ⟨r, hr, e⟩ := (h.mem ns).mp z
      exact ⟨r, sb_snoc.mpr (.inl hr), e⟩
    · obtain ⟨r, hr, e2⟩ := (h.mem x).mp hx
      subst e2
      exact ⟨_, sb_snoc.mpr (.inr ⟨r, hr, rfl⟩), e.trans (prI_rvi hl r)⟩
  · rintro ⟨r, hr, e⟩
    rcases sb_snoc.mp hr with z | ⟨s, hs, e2⟩
    · exact .inl ((h.mem ns).mpr ⟨r, z, e⟩)
    · subst e2
      exact .inr ⟨rvi S.n s, (h.mem _).mpr ⟨s, hs, rfl⟩, e.trans (prI_rvi hl s).symm⟩
theorem ok_lu (G : GD K mg "_law_under" s_L_under) (c1 : Cal P w K mg base 4 "_law_least" (spLL K) []) (c2 : Cal P w K mg base 2 "_law_pressed" (spLP K) []) (m1 : mg "len" = none) (m2 : mg "set" = none) (m3 : mg "sorted" = none) : Cal P w K mg base 5 "_law_under" (spLU K) [] := by
  refine cal_of (N := ["table", "word", "found", "letter", "row"]) (ps := ["table", "word"]) G ⟨rfl, rfl, rfl, by decide +kernel, rfl, by decide +kernel, by decide +kernel⟩ (fun _ _ _ _ _ _ us hl => match us, hl with | [_, _], _ => rfl) (fun vs H Q E h => ?_) (fun f cdv A outer s H vs Q E hr h => ?_)
  · obtain ⟨a, _, _, _, _, rfl, _⟩ := h
    rfl
  · obtain ⟨tb, a, S, u0, k, rfl, hTb, hW, h1, h6, hA, hlt0, hre, hk8, q⟩ := h
    have nd : (["table", "word", "found", "letter", "row"] : List Str).Nodup := by decide +kernel
    have hu8 : (A.deeper (envOfC "_law_under" (defScope s_L_under) s.heap.objs.size f cdv)).units + 8 < cLine := by have := hr.units; omega
    refine ⟨_, pss_cons (ps_set (i := 2) nd rfl (.inl rfl) (pe_lst (pa_cons (pe_op op_repN (pe_tup (pa_cons pe_int pa_nil)) (pe_callB call_len (by rfl) m1 boot_len (pa_cons (pv 0) pa_nil))) pa_nil)))
      (pss_cons (ps_for PassesOwn.never rfl (pi_tup (pe_c c1 hr (by decide) (by rfl) (pa_cons (pv 0) (pa_cons (pv 1) pa_nil)))) (pg_name (i := 3) nd rfl (.inr rfl))
        (pss_cons (ps_set (i := 2) nd rfl (.inl rfl) (pe_op op_cat (pv 2) (pe_lc (own := [("row", 4)]) (g := gName 4) (tt := tYes) (by rfl) nd (pi_list (pv 2)) (blkOk_by (own := [("row", 4)]) (N := ["table", "word", "found", "letter", "row"]) (sc := defScope s_L_under) (by decide +kernel))
            (fun _ _ _ _ _ => pg_name (i := 4) nd rfl (.inl rfl)) (fun _ _ _ _ _ => pts_nil) (fun _ _ _ _ _ => pe_c c2 hr (by decide) (by rfl) (pa_cons (pv 0) (pa_cons (pv 4) (pa_cons (pv 3) pa_nil)))))))
        (pss_one (ps_set (i := 2) nd rfl (.inl rfl) (pe_callB (call_sortSetB rfl) (by rfl) m3 (by decide +kernel) (pa_cons (pe_callTy (call_setB rfl hu8) (by rfl) m2 PyProof.Rows.boot_set (pa_cons (pv 2) pa_nil)) pa_nil))))))
      (pss_one (ps_ret (pv 2)))), ?_⟩
    have hwW := lw_isW hre
    have hlt := hwW.lt
    have hul : (lw S k (pr S.w u0.reverse rho)).length = k := lw_len hre
    obtain ⟨u, eu⟩ : ∃ u, lw S k (pr S.w u0.reverse rho) = u := ⟨_, rfl⟩
    rw [eu] at q hwW hlt hul
    refine ⟨(by show 1 ≤ sizeLine; decide), fun t nt => ⟨.ref tb, rfl, .ref tb, S.n, rfl, (hTb.same (same_upd nt)).len, t, S.n, .int 1, rfl, rfl, upd_same, h1, by omega, fun p0 H1 s1 hp0 => ⟨(by show 1 ≤ sizeLine; decide), fun fl nfl => ?_⟩⟩⟩
    have s01 := Same.trans (same_upd (o := .tup [.int 1]) nt) s1
    have hp0' : H1 p0 = some (.tup (rv S.n rho)) := by
      rw [hp0]
      unfold rv rho
      rw [List.map_const', List.length_range]
    have sf := same_upd (o := .lst [V.ref p0]) nfl
    have nflH : H fl = none := by
      cases e : H fl with
      | none => rfl
      | some o => rw [s01 _ _ e] at nfl; cases nfl
    have s2 := Same.trans s01 sf
    have f2 : (upd H1 fl (.lst [V.ref p0])) fl = some (.lst [V.ref p0]) := upd_same
    have p2 := sf _ _ hp0'
    generalize upd H1 fl (.lst [V.ref p0]) = H2 at s2 f2 p2
    have pow8 : ∀ i, (rowsR S (u.take i) [rho]).length ≤ 256 := fun i => by
      have z := rowsR_len (S := S) (u := u.take i) fun l hl => hlt l (List.mem_of_mem_take hl)
      have y : 2 ^ (u.take i).length ≤ 2 ^ 8 := Nat.pow_le_pow_right (by decide) (by rw [List.length_take]; omega)
      exact Nat.le_trans z y
    have big : 8192 < sizeLine := by decide
    refine ⟨.ref tb, rfl, .ref a, rfl, tb, a, S, u0, k, rfl, hTb.same s2, hW, h1, h6, s2.seq hA, hlt0, hre, by omega, fun wt H3 s3 hwt => ?_⟩
    rw [eu] at hwt
    refine ⟨wt, rfl, ⟨_, hwt⟩, ?_⟩
    refine for_tup (xs := wv u) (fun i σ H4 => Same H H4 ∧ SqT K H4 wt (wv u) ∧ ∃ (fl : Addr) (ks : List (Addr × List Int)) (y3 y4 : Option V), σ = [some (.ref tb), some (.ref a), some (.ref fl), y3, y4] ∧ H fl = none ∧ H4 fl = some (.lst (ks.map fun q => V.ref q.1)) ∧ (∀ q ∈ ks, SqT K H4 q.1 (q.2.map V.int)) ∧ DueL S (u.take i) (ks.map fun q : Addr × List Int => q.2))
      ⟨Same.trans s2 s3, hwt, fl, [(p0, rvi S.n rho)], _, _, rfl, nflH, s3 _ _ f2, fun q hq => by rw [List.mem_singleton.mp hq]; exact SqT.of (by rw [s3 _ _ p2, rv_ints]; rfl), due_zero S⟩ (fun i σ H4 _ z => z.2.1) (fun i x σ H4 hx z => ?_) (fun σ H4 z => ?_)
    · obtain ⟨s4, hwt4, fl, ks, y3, y4, rfl, nfl, hfl, hks, hdue⟩ := z
      obtain ⟨l, hl, rfl⟩ := wv_at hx
      have hln := hlt l (List.mem_of_getElem? hl)
      have etk : u.take (i + 1) = u.take i ++ [l] := by rw [List.take_add_one, hl]; rfl
      have more := due_more hdue hln
      have hlen : (ks.map (·.2)).length ≤ 256 := by
        rw [hdue.len fun l hl => hlt l (List.mem_of_mem_take hl)]
        exact pow8 i
      rw [List.length_map] at hlen
      refine ⟨.ref fl, rfl, .ref fl, rfl, fl, rfl, ⟨_, .inl (.inl hfl)⟩, fun D nD => ?_⟩
      refine lc_list (xs := ks.map fun q => V.ref q.1) (fun j H5 => Same H4 H5 ∧ ∃ ms : List (Addr × List Int), H5 D = some (.lst (ms.map fun q => V.ref q.1)) ∧ ms.length = j ∧ ms.map (·.2) = ((ks.map (·.2)).take j).map (prI S l) ∧ ∀ q ∈ ms, SqT K H5 q.1 (q.2.map V.int))
        ⟨same_upd nD, [], upd_same, rfl, rfl, fun q hq => absurd hq List.not_mem_nil⟩ (fun j H5 _ z => .inl (.inl (z.1 _ _ hfl))) (fun j x H5 hx z => ?_) (fun H5 z => ?_)
      · obtain ⟨s5, ms, eD, ml, em, hms⟩ := z
        rw [List.getElem?_map, Option.map_eq_some_iff] at hx
        obtain ⟨qj, hqj, rfl⟩ := hx
        have hjl : j < ks.length := (List.getElem?_eq_some_iff.mp hqj).1
        have hq2 : (ks.map (·.2))[j]? = some qj.2 := by rw [List.getElem?_map, hqj]; rfl
        obtain ⟨r, hr, er⟩ := (hdue.mem qj.2).mp (List.mem_of_getElem? hq2)
        have ht5 := Same.tup s5 (hks qj (List.mem_of_getElem? hqj))
        rw [er] at ht5
        refine ⟨rfl, .ref tb, rfl, .ref qj.1, rfl, .int ((l : Nat) + 1), rfl, tb, qj.1, S, r, l, rfl, hTb.same (Same.trans s4 s5), hW, h6, by rw [rv_ints]; exact ht5, hln, fun p' H6 s6 hp' => ?_⟩
        have eD6 := s6 _ _ eD
        have e2 : (ms ++ [(p', prI S l qj.2)]).map (·.2) = ((ks.map (·.2)).take (j + 1)).map (prI S l) := by
          rw [List.map_append, em, List.take_add_one, hq2, List.map_append]
          rfl
        refine ⟨_, eD6, by rw [List.length_map, ml]; omega, fun y o e => ?_, ms ++ [(p', prI S l qj.2)], ?_, by rw [List.length_append, ml]; rfl, e2, fun q hq => ?_⟩
        · rw [upd_ne (ne_of_none e nD)]
          exact s6 _ _ (s5 _ _ e)
        · rw [upd_same, List.map_append]
          rfl
        · rcases List.mem_append.mp hq with z | z
          · exact SqT.updL (Same.tup s6 (hms q z)) eD6
          · rw [List.mem_singleton.mp z]
            refine SqT.updL (SqT.of ?_) eD6
            show H6 p' = some (.tup ((prI S l qj.2).map V.int))
            rw [hp', er, prI_rvi hln, rv_ints]
            rfl
      · obtain ⟨s5, ms, eD, ml, em, hms⟩ := z
        rw [List.length_map] at ml
        rw [List.length_map, List.take_of_length_le (by rw [List.length_map]; exact Nat.le_refl _)] at em
        have hfl5 := s5 _ _ hfl
        refine ⟨fl, D, _, _, rfl, rfl, hfl5, eD, by rw [List.length_map, List.length_map, ml]; omega, fun Cc nC => ?_⟩
        have sC := same_upd (o := .lst ((ks.map fun q => V.ref q.1) ++ ms.map fun q => V.ref q.1)) nC
        have s6 := Same.trans s5 sC
        have memk : ∀ ns, ns ∈ (ks ++ ms).map (·.2) ↔ ∃ r, Sb S (u.take (i + 1)) rho r ∧ ns = rvi S.n r := fun ns => by
          rw [etk, ← more ns, List.map_append, em, List.mem_append]
          constructor
          · rintro (z | z)
            · exact .inl z
            · obtain ⟨x, hx, e⟩ := List.mem_map.mp z
              exact .inr ⟨x, hx, e.symm⟩
          · rintro (z | ⟨x, hx, e⟩)
            · exact .inl z
            · exact .inr (List.mem_map.mpr ⟨x, hx, e.symm⟩)
        have hlt1 : ∀ l ∈ u.take (i + 1), l < S.n := fun l hl => hlt l (List.mem_of_mem_take hl)
        have tk : ∀ q ∈ ks ++ ms, SqT K (upd H5 Cc (.lst ((ks.map fun q => V.ref q.1) ++ ms.map fun q => V.ref q.1))) q.1 (q.2.map V.int) := fun q hq => by
          rcases List.mem_append.mp hq with z | z
          · exact Same.tup s6 (hks q z)
          · exact Same.tup sC (hms q z)
        refine ⟨.ref Cc, rfl, Cc, ks ++ ms, (rowsR S (u.take (i + 1)) [rho]).map (rvi S.n), rfl, .inl (.inl (by rw [upd_same, List.map_append])), tk, fun q hq => ?_, ?_, fun st L nst hsub hcov hnd => ?_⟩
        · exact (rows_mem hlt1 q.2).mpr ((memk q.2).mp (List.mem_map_of_mem hq))
        · rw [List.length_map]
          have := pow8 (i + 1)
          omega
        · have sS := same_upd (o := SbO P w st L) nst
          refine ⟨st, L, rfl, upd_same, fun q hq => Same.tup sS (tk q (hsub q hq)), fun q hq => ?_, fun ks' lp hpm hasc nlp => ?_⟩
          · obtain ⟨r, _, e⟩ := (memk q.2).mp (List.mem_map_of_mem (hsub q hq))
            rw [e]
            exact rvi_ne h1 r
          · have sl := same_upd (o := .lst (ks'.map fun q => V.ref q.1)) nlp
            have s7 := Same.trans s6 (Same.trans sS sl)
            refine ⟨Same.trans s4 s7, Same.tup s7 hwt4, lp, ks', _, _, rfl, ?_, upd_same, fun q hq => Same.tup sl (Same.tup sS (tk q (hsub q (hpm.mem_iff.mp hq)))), sorted_map hasc, ?_, fun ns => ?_⟩
            · cases e : H lp with
              | none => rfl
              | some o =>
                have z := sS _ _ (s6 _ _ (s4 _ _ e))
                exact absurd (z.symm.trans nlp) (Option.some_ne_none o)
            · exact (hpm.map (·.2)).nodup_iff.mpr hnd
            · rw [(hpm.map (·.2)).mem_iff, ← memk ns]
              constructor
              · intro z
                obtain ⟨q, hq, e⟩ := List.mem_map.mp z
                exact List.mem_map.mpr ⟨q, hsub q hq, e⟩
              · intro z
                obtain ⟨q, hq, e⟩ := List.mem_map.mp z
                subst e
                exact hcov q hq
    · obtain ⟨s4, hwt4, fl, ks, y3, y4, rfl, nfl, hfl, hks, hdue⟩ := z
      rw [wv_len, List.take_of_length_le (Nat.le_refl _)] at hdue
      exact ⟨.ref fl, rfl, q fl H4 _ s4 nfl hdue ⟨ks, rfl, hfl, hks⟩⟩
end
end Bw
-- WlD
set_option autoImplicit true
set_option maxRecDepth 512
set_option Elab.async false
set_option linter.all false
set_option maxRecDepth 100000
set_option maxHeartbeats 2000000
/-! WlD: lists of tuples as data; the words by their letters. -/
namespace Bw
open PySem PySem.Spec PyProof.Rows L2 C8
def iv (u : List Nat) : List Int := u.map fun (l : Nat) => ((l : Nat) + 1 : Int)
theorem wv_iv (u : List Nat) : wv u = (iv u).map V.int := wv_ints u
def jv (ns : List Int) : List Nat := ns.map fun z => (z - 1).toNat
theorem jv_iv (u : List Nat) : jv (iv u) = u := by
  unfold jv iv
  rw [List.map_map]
  conv => rhs; rw [← List.map_id u]
  refine List.map_congr_left fun x _ => ?_
  show (((x : Nat) : Int) + 1 - 1).toNat = x
  omega
theorem lexI_iv : ∀ u v : List Nat, lexI (iv u) (iv v) = true ↔ ltW u v
  | [], [] => ⟨(fun h => by cases h), fun h => False.elim h⟩
  | [], _ :: _ => ⟨fun _ => trivial, fun _ => rfl⟩
  | _ :: _, [] => ⟨(fun h => by cases h), fun h => False.elim h⟩
  | a :: u, b :: v => by
    show lexI ((((a : Nat) : Int) + 1) :: iv u) ((((b : Nat) : Int) + 1) :: iv v) = true ↔ (a < b ∨ (a = b ∧ ltW u v))
    rw [lexI_cons]
    by_cases e : a = b
    · subst e
      rw [if_pos rfl, lexI_iv u v]
      constructor
      · exact fun h => .inr ⟨rfl, h⟩
      · rintro (h | ⟨_, h⟩)
        · omega
        · exact h
    · rw [if_neg (by omega), decide_eq_true_iff]
      constructor
      · exact fun h => .inl (by omega)
      · rintro (h | ⟨h, _⟩)
        · omega
        · exact absurd h e
def dW (us : List (List Int)) : PyData := .list (us.map fun ns => PyData.tuple (ns.map PyData.int))
theorem dW_all {K : PySem.W.Frag} {H : Hp} : ∀ {as : List Addr} {us : List (List Int)}, as.length = us.length → (∀ (i : Nat) (a : Addr) (u : List Int), as[i]? = some a → us[i]? = some u → SqT K H a (u.map V.int)) → DpAll K H (as.map V.ref) (us.map fun ns => PyData.tuple (ns.map PyData.int))
  | [], [], _, _ => .nil
  | [], _ :: _, h, _ => by cases h
  | _ :: _, [], h, _ => by cases h
  | a :: as, u :: us, h, q => .cons (dp_tup (q 0 a u rfl rfl)) (dW_all (Nat.succ.inj h) fun i b v h1 h2 => q (i + 1) b v h1 h2)
theorem dp_words {K : PySem.W.Frag} {H : Hp} {a : Addr} {as : List Addr} {us : List (List Int)} (h : SqL K H a (as.map V.ref)) (hl : as.length = us.length) (q : ∀ (i : Nat) (a : Addr) (u : List Int), as[i]? = some a → us[i]? = some u → SqT K H a (u.map V.int)) : Dp K H (.ref a) (dW us) := .lst h (dW_all hl q)
theorem shapedW (us : List (List Int)) : SeqAt.shaped (dW us) = true := by
  have i1 : ∀ ns : List Int, PyData.canLayAll0 (ns.map PyData.int) = true := by
    intro ns
    induction ns with
    | nil => simp [PyData.canLayAll0]
    | cons n ns ih => simp [PyData.canLayAll0, PyData.canLay0, ih]
  have i2 : ∀ ns : List Int, PyData.depthAll (ns.map PyData.int) ≤ 1 := by
    intro ns
    induction ns with
    | nil => simp [PyData.depthAll]
    | cons n ns ih => simp [PyData.depthAll, PyData.depth]; omega
  have h1 : ∀ us : List (List Int), PyData.canLayAll0 (us.map fun ns => PyData.tuple (ns.map PyData.int)) = true := by
    intro us
    induction us with
    | nil => simp [PyData.canLayAll0]
    | cons u us ih => simp [PyData.canLayAll0, PyData.canLay0, i1, ih]
  have h2 : ∀ us : List (List Int), PyData.depthAll (us.map fun ns => PyData.tuple (ns.map PyData.int)) ≤ 2 := by
    intro us
    induction us with
    | nil => simp [PyData.depthAll]
    | cons u us ih =>
      have := i2 u
      simp [PyData.depthAll, PyData.depth]
      omega
  have := h2 us
  simp [SeqAt.shaped, dW, PyData.canLay0, PyData.depth, h1]
  omega
theorem eqvW (us vs : List (List Int)) : PyData.eqv (dW us) (dW vs) = decide (us = vs) := by
  have key : ∀ us vs : List (List Int), PyData.eqvAll (us.map fun ns => PyData.tuple (ns.map PyData.int)) (vs.map fun ns => PyData.tuple (ns.map PyData.int)) = decide (us = vs) := by
    intro us
    induction us with
    | nil =>
      intro vs
      cases vs <;> simp [PyData.eqvAll]
    | cons u us ih =>
      intro vs
      cases vs with
      | nil => simp [PyData.eqvAll]
      | cons v vs =>
        simp only [List.map_cons, PyData.eqvAll, ih, eqv_ints]
        by_cases h : u = v <;> simp [h]
  show PyData.eqvAll _ _ = _
  exact key us vs
end Bw
-- WlG
set_option autoImplicit true
set_option maxRecDepth 512
set_option Elab.async false
set_option linter.all false
set_option maxRecDepth 100000
set_option maxHeartbeats 2000000
/-! WlG: law: what its turns hold. -/
namespace Bw
open PySem PySem.Spec PyProof.Rows L2 C8 Ra
section
variable {X : Cx} {Φ : Outcome → Shared → Prop} {C : Bed X.prog X.w Φ → Prop} {st : Stmt} {rest : List Stmt}
def tGCut (t u : TGn) : TGn := fun D ys σ H => ∃ Mid : List V → L2.St → Hp → Prop, t { D with nx := Mid } ys σ H ∧ ∀ ys' σ' H', Mid ys' σ' H' → u D ys' σ' H'
theorem rss_cut {t u : TGn} (a : RS X C st t) (b : RSs X C rest u) : RSs X C (st :: rest) (tGCut t u) := by
  refine ⟨fun bd hC n ys L c fs K J gd lv s σ H ip D g hn k hI ht => ?_⟩
  rw [execs_cons_wrap]
  obtain ⟨Mid, hm, hu⟩ := ht
  refine a.run bd hC n ys L c fs _ J gd lv s σ H ip { D with nx := Mid } g hn (fun n' ys' L' s' f hn' hs => ?_) hI hm
  cases f with
  | next =>
    obtain ⟨σ', H', I', q⟩ := hs
    exact b.run bd hC n' ys' L' c fs K J gd lv s' σ' H' ip D g hn' k I' (hu ys' σ' H' q)
  | brk => exact k n' ys' L' s' .brk hn' hs
  | cont => exact k n' ys' L' s' .cont hn' hs
  | ret v => exact k n' ys' L' s' (.ret v) hn' hs
end
theorem call_lenK (K : PySem.W.Frag) {X : Cx} (hK : X.K = K := by rfl) : CallR X (.builtin "len") (fun xs H Q => ∃ (x : V) (n : Nat), xs = [x] ∧ LenV K x H n ∧ Q (.int (n : Nat)) H) := by
  subst hK
  exact call_len
theorem Ms.keepM {H H' : Hp} {m cl gr : Addr} {n : Nat} (h : Ms H m cl gr n) (s : SameM m gr H H') {x : Addr} {o : HO} (e : H x = some o) (n1 : ∀ k, o ≠ .dK k) (n2 : ∀ k, o ≠ .lst k) : H' x = some o := by
  obtain ⟨_, _, e1, _, _, e2, _⟩ := h
  exact s x o (fun z => by rw [z, e1] at e; exact n1 _ (Option.some.inj e).symm) (fun z => by rw [z, e2] at e; exact n2 _ (Option.some.inj e).symm) e
theorem Ms.tupM {K : PySem.W.Frag} {H H' : Hp} {m cl gr a : Addr} {n : Nat} {xs : List V} (h : Ms H m cl gr n) (s : SameM m gr H H') (ht : SqT K H a xs) : SqT K H' a xs := by
  rcases ht with (ht | ⟨o, ht⟩) | ht
  · exact .inl (.inl (h.keepM s ht (fun _ z => nomatch z) (fun _ z => nomatch z)))
  · exact .inl (.inr ⟨o, h.keepM s ht (fun _ z => nomatch z) (fun _ z => nomatch z)⟩)
  · exact .inr ht
theorem Ms.boM {K : PySem.W.Frag} {C b : Addr} {H H' : Hp} {m cl gr : Addr} {n : Nat} {S : Sys} (h : Ms H m cl gr n) (s : SameM m gr H H') (hB : Bo K C H b S) : Bo K C H' b S := by
  obtain ⟨dx, t, as, h1, h2, h3, h4⟩ := hB
  refine ⟨dx, t, as, ?_, h2, h.tupM s h3, fun i c q => h.tupM s (h4 i c q)⟩
  rcases h1 with ⟨h1, h5⟩ | ⟨h1, h5⟩
  · exact .inl ⟨h.keepM s h1 (fun _ z => nomatch z) (fun _ z => nomatch z), h5⟩
  · exact .inr ⟨h.keepM s h1 (fun _ z => nomatch z) (fun _ z => nomatch z), h.keepM s h5 (fun _ z => nomatch z) (fun _ z => nomatch z)⟩
theorem log_small {n : Nat} (h : n ≤ 155520) : ((n : Nat) : Int).natAbs.log2 < 1920 := by
  rw [Int.natAbs_natCast]
  by_cases h0 : n = 0
  · subst h0
    decide +kernel
  · have h2 : n < 2 ^ 18 := by
      have : (2 : Nat) ^ 18 = 262144 := by decide
      omega
    have := (Nat.log2_lt h0).mpr h2
    omega
end Bw
-- WmH
set_option autoImplicit true
set_option maxRecDepth 512
set_option Elab.async false
set_option linter.all false
set_option maxRecDepth 100000
set_option maxHeartbeats 4000000
/-! WmH: law: what a turn holds. -/
namespace Bw
open PySem PySem.Spec PyProof.Rows L2 C8 Ra
theorem gfor_range {lo : Int} {n : Nat} {g : TG} {tb : TGn} {D : GEnds} {ys : List V} {σ : L2.St} {H : Hp} (Pv : Nat → List V → L2.St → Hp → Prop) (h0 : Pv 0 ys σ H)
    (hs : ∀ i ys σ H, i < n → Pv i ys σ H → g (.int (lo + (i : Nat))) σ H fun σ2 H2 => tb { D with nx := Pv (i + 1), ct := Pv (i + 1), bk := D.nx } ys σ2 H2) (hd : ∀ ys σ H, Pv n ys σ H → D.nx ys σ H) :
    ∃ W : Nat → Nat → List V → L2.St → Hp → Prop, (∃ m, W 0 m ys σ H) ∧ ∀ i m ys σ H, W i m ys σ H →
      ((Itr lo n).stop i H ∧ D.nx ys σ H) ∨ ((Itr lo n).go i H ∧ ∃ N : List V → L2.St → Hp → Prop, (∀ ys' σ' H', N ys' σ' H' → ∃ m', m' < m ∧ W (i + 1) m' ys' σ' H') ∧ ∀ x H', (Itr lo n).yld i H x H' → g x σ H' fun σ2 H2 => tb { D with nx := N, ct := N, bk := D.nx } ys σ2 H2) := by
  refine ⟨fun i m ys σ H => m = n - i ∧ i ≤ n ∧ Pv i ys σ H, ⟨n, by simp, Nat.zero_le _, h0⟩, ?_⟩
  rintro i m ys σ H ⟨rfl, hi, p⟩
  by_cases hlt : i < n
  · refine .inr ⟨hlt, Pv (i + 1), fun ys' σ' H' p' => ⟨n - (i + 1), by omega, rfl, hlt, p'⟩, fun x H' y => ?_⟩
    obtain ⟨e, y⟩ := y
    subst e y
    exact hs i ys σ _ hlt p
  · have e : i = n := by omega
    subst e
    exact .inl ⟨Nat.le_refl _, hd ys σ H p⟩
/-- the law's table, apart from the state of the draws -/
def Rtb (H : Hp) (m gr p : Addr) (S : Sys) : Prop := ∃ (as : List Addr) (n : Nat) (T : Nat → Nat → Nat) (hT : GoodT n T), S = mkSys n T hT ∧ TbM H p as n T ∧ ∀ x, (x = p ∨ x ∈ as) → x ≠ m ∧ x ≠ gr
theorem Rtb.tb {K : PySem.W.Frag} {H : Hp} {m gr p : Addr} {S : Sys} (h : Rtb H m gr p S) : TbL K H p S := by
  obtain ⟨as, n, T, hT, rfl, h, _⟩ := h
  exact h.tb hT
theorem Rtb.keep {H H' : Hp} {m gr p : Addr} {S : Sys} (h : Rtb H m gr p S) (s : SameM m gr H H') : Rtb H' m gr p S := by
  obtain ⟨as, n, T, hT, e, h, hn⟩ := h
  exact ⟨as, n, T, hT, e, h.keep fun x o hx e => s x o (hn x hx).1 (hn x hx).2 e, hn⟩
theorem mkSys_wt {n : Nat} {T : Nat → Nat → Nat} (hT : GoodT n T) : Wt (mkSys n T hT) := by
  intro a b hab hb
  have hb' : b < n := hb
  have hk := hT.k a b (by omega) hb' (Nat.ne_of_lt hab)
  have e1 : (mkSys n T hT).w a b = wLo (T a b) := mkW_lt hab hb'
  have e2 : (mkSys n T hT).w b a = wHi (T b a) := mkW_gt hab hb'
  have e3 : T b a = T a b := (hT.s a b (by omega) hb').symm
  have e4 : (mkSys n T hT).m a b = T a b := rfl
  rw [e1, e2, e3, e4]
  rcases hk with e | e | e | e | e <;> rw [e] <;> rfl
theorem Rtb.wt {H : Hp} {m gr p : Addr} {S : Sys} (h : Rtb H m gr p S) : Wt S := by
  obtain ⟨as, n, T, hT, rfl, _⟩ := h
  exact mkSys_wt hT
theorem Ms.lstM {H H' : Hp} {m cl gr a : Addr} {n : Nat} {xs : List V} (h : Ms H m cl gr n) (s : SameM m gr H H') (ha : a ≠ gr) (e : H a = some (.lst xs)) : H' a = some (.lst xs) := by
  refine s _ _ (fun z => ?_) ha e
  obtain ⟨_, _, e1, _⟩ := h
  rw [z, e1] at e
  cases e
theorem Ms.ngr {H : Hp} {m cl gr a : Addr} {n : Nat} (h : Ms H m cl gr n) (e : H a = none) : a ≠ gr := fun z => by
  obtain ⟨_, _, _, _, _, e2, _⟩ := h
  rw [z, e2] at e
  cases e
/-- words as tuples, in a list -/
def Wds (K : PySem.W.Frag) (H : Hp) (l : Addr) (us : List (List Nat)) : Prop := ∃ as : List Addr, H l = some (.lst (as.map V.ref)) ∧ as.length = us.length ∧ ∀ (i : Nat) (b : Addr) (u : List Nat), as[i]? = some b → us[i]? = some u → SqT K H b (wv u)
theorem Wds.same {K : PySem.W.Frag} {H H' : Hp} {l : Addr} {us : List (List Nat)} (h : Wds K H l us) (s : Same H H') : Wds K H' l us := by
  obtain ⟨as, e, el, q⟩ := h
  exact ⟨as, s _ _ e, el, fun i b u h1 h2 => Same.tup s (q i b u h1 h2)⟩
theorem Wds.keepM {K : PySem.W.Frag} {H H' : Hp} {m cl gr l : Addr} {n : Nat} {us : List (List Nat)} (h : Wds K H l us) (hM : Ms H m cl gr n) (s : SameM m gr H H') (hl : l ≠ gr) : Wds K H' l us := by
  obtain ⟨as, e, el, q⟩ := h
  exact ⟨as, hM.lstM s hl e, el, fun i b u h1 h2 => hM.tupM s (q i b u h1 h2)⟩
theorem LsT.keepM {K : PySem.W.Frag} {H H' : Hp} {m cl gr l : Addr} {n : Nat} {L : List (List Int)} (h : LsT K H l L) (hM : Ms H m cl gr n) (s : SameM m gr H H') (hl : l ≠ gr) : LsT K H' l L := by
  obtain ⟨ks, e, h1, q⟩ := h
  exact ⟨ks, e, hM.lstM s hl h1, fun p hp => hM.tupM s (q p hp)⟩
theorem LsT.dp {K : PySem.W.Frag} {H : Hp} {l : Addr} {L : List (List Int)} (h : LsT K H l L) : Dp K H (.ref l) (dW L) := by
  obtain ⟨ks, e, h1, q⟩ := h
  subst e
  have e2 : (ks.map fun q => V.ref q.1) = (ks.map (·.1)).map V.ref := by rw [List.map_map]; rfl
  refine dp_words (as := ks.map (·.1)) (.inl (.inl (by rw [← e2]; exact h1))) (by rw [List.length_map, List.length_map]) fun i a u h2 h3 => ?_
  rw [List.getElem?_map, Option.map_eq_some_iff] at h2 h3
  obtain ⟨p, hp, rfl⟩ := h2
  obtain ⟨p', hp', rfl⟩ := h3
  rw [hp] at hp'
  cases hp'
  exact q p (List.mem_of_getElem? hp)
theorem LsT.len {K : PySem.W.Frag} {H : Hp} {l : Addr} {L : List (List Int)} (h : LsT K H l L) : LenV K (.ref l) H L.length := by
  obtain ⟨ks, e, h1, _⟩ := h
  subst e
  exact .inl ⟨_, .inl (.inl h1), by rw [List.length_map, List.length_map]⟩
/-- a turn, behind its first draws -/
structure Tn (K : PySem.W.Frag) (C : Addr) (H : Hp) (m cl gr tb x wd : Addr) (c : Nat) (S : Sys) (u : List Nat) : Prop where
  ms : Ms H m cl gr c
  rt : Rtb H m gr tb S
  bo : Bo K C H x S
  n1 : 1 ≤ S.n
  n6 : S.n ≤ 6
  wo : H wd = some (.lst (wv u))
  ngr : wd ≠ gr
  lt : ∀ l ∈ u, l < S.n
  len : u.length ≤ 8
theorem Tn.same {K : PySem.W.Frag} {C : Addr} {H H' : Hp} {m cl gr tb x wd : Addr} {c : Nat} {S : Sys} {u : List Nat} (h : Tn K C H m cl gr tb x wd c S u) (s : Same H H') : Tn K C H' m cl gr tb x wd c S u :=
  ⟨h.ms.same s, h.rt.keep (Same.toM s), h.bo.same s, h.n1, h.n6, s _ _ h.wo, h.ngr, h.lt, h.len⟩
theorem Tn.keepM {K : PySem.W.Frag} {C : Addr} {H H' : Hp} {m cl gr tb x wd : Addr} {c c' : Nat} {S : Sys} {u : List Nat} (h : Tn K C H m cl gr tb x wd c S u) (s : SameM m gr H H') (hM : Ms H' m cl gr c') : Tn K C H' m cl gr tb x wd c' S u :=
  ⟨hM, h.rt.keep s, h.ms.boM s h.bo, h.n1, h.n6, h.ms.lstM s h.ngr h.wo, h.ngr, h.lt, h.len⟩
theorem inV_letter (n : Nat) (r : Row) {l : Nat} (hl : l < n) : inV (.int ((l : Nat) + 1)) (wv (bl n r)) = decide (r l < 0) := by
  rw [Bool.eq_iff_iff, decide_eq_true_iff]
  unfold inV
  rw [List.any_eq_true]
  constructor
  · rintro ⟨y, hy, e⟩
    unfold wv at hy
    obtain ⟨k, hk, rfl⟩ := List.mem_map.mp hy
    have e2 : ((k : Nat) : Int) + 1 = (l : Nat) + 1 := by simpa [eqV] using e
    have e3 : k = l := by omega
    subst e3
    exact (mem_bl.mp hk).2
  · intro h
    refine ⟨.int ((l : Nat) + 1), ?_, by simp [eqV]⟩
    unfold wv
    exact List.mem_map.mpr ⟨l, mem_bl.mpr ⟨hl, h⟩, rfl⟩
theorem flat_wv (u : List Nat) : (wv u).all flatV = true := by
  rw [List.all_eq_true]
  intro x hx
  unfold wv at hx
  obtain ⟨k, _, rfl⟩ := List.mem_map.mp hx
  rfl
end Bw
-- WmI
set_option autoImplicit true
set_option maxRecDepth 512
set_option Elab.async false
set_option linter.all false
set_option maxRecDepth 100000
set_option maxHeartbeats 4000000
/-! WmI: law. -/
namespace Bw
open PySem PySem.Spec PyProof.Rows L2 C8 Ra
section
variable {P : Program} {w : World} {Φ : Outcome → Shared → Prop} {K : PySem.W.Frag} {mg : Str → Option Value} {base : Heap} {C CC : Addr}
def spLaw (K : PySem.W.Frag) : Sp := fun vs H Q _ => ∃ (a : Addr) (ns : List Int), vs = [.ref a] ∧ SqL K H a (ns.map V.int) ∧ ns.length ≤ 1000 ∧ ∀ H', Q (.bl true) H'
theorem ok_law {f : Addr} {fd : FuncData} (F : FunD K "law" "law" (defArgs s_law) (defBody s_law) (defScope s_law) [] [] f fd)
    (cB : Mak P w K mg base 5 "Bonds" C (spBinit K C) []) (cbegun : Cal P w K mg base 2 "_law_begun" (spBegun K) []) (ctab : Cal P w K mg base 3 "_law_table" (spTab K) []) (cwd : Cal P w K mg base 3 "_law_word" spLWd []) (cunder : Cal P w K mg base 5 "_law_under" (spLU K) [])
    (crows : Cal P w K mg base 3 "_law_rows_by" (spRowsBy K) []) (cdraw : Cal P w K mg base 2 "_law_draw" spDraw []) (ccount : Cal P w K mg base 9 "count_below" (spCountB K C) []) (cshort : GCal P w Φ K mg base 41 "shortest_words" (spShort K C)) (cbel : Cal P w K mg base 7 "is_below" (spIsBelow K C) []) (clasts : Cal P w K mg base 8 "lasts" (spLasts K C) [])
    (mlist : mg "list" = none) (mlen : mg "len" = none) (mrange : mg "range" = none) (mmin : mg "min" = none) : LFn P w Φ K mg base 60 f fd ["script"] (spLaw K) := by
  obtain ⟨oc, od, dV, kV, doc, pm, an, cdv, ct, osl, rfl, lk, hcd, _, _⟩ := F.ex
  refine lfn_of (k := 59) (N := ["script", "m", "turn", "table", "bonds", "many", "word", "some", "due", "again", "one", "told", "letter", "less"]) lk hcd ⟨rfl, rfl, rfl, by decide +kernel, rfl, by decide +kernel, by decide +kernel⟩ (fun vs H Q E h => ?_) (fun A s H vs Q hr hg h => ?_)
  · obtain ⟨_, _, rfl, _⟩ := h
    rfl
  obtain ⟨a, ns, rfl, hL, hl, q⟩ := h
  have nd : (["script", "m", "turn", "table", "bonds", "many", "word", "some", "due", "again", "one", "told", "letter", "less"] : List Str).Nodup := by decide +kernel
  have nox : ∀ e s', ¬ (lctx P w K mg base ["script", "m", "turn", "table", "bonds", "many", "word", "some", "due", "again", "one", "told", "letter", "less"] "law" (defScope s_law) f cdv A s H).xe e s' := fun _ _ h => h
  refine ⟨_, rss_cons (rs_ps (ps_set (i := 1) nd rfl (.inl rfl) (pe_c cbegun hr (by decide) (by rfl) (pa_cons (pv 0) pa_nil))))
    (rss_cons (rs_for rfl (pi_range1 (by rfl) mrange (pa_cons pe_int pa_nil)) (pg_name (i := 2) nd rfl (.inl rfl))
      (rss_cut (rs_ps (ps_set (i := 3) nd rfl (.inl rfl) (pe_c ctab hr (by decide) (by rfl) (pa_cons (pv 1) (pa_cons (pe_op op_add pe_int (pe_c cdraw hr (by decide) (by rfl) (pa_cons (pv 1) (pa_cons pe_int pa_nil)))) (pa_cons (pe_lst (pa_cons pe_int (pa_cons pe_int (pa_cons pe_int (pa_cons pe_int (pa_cons pe_int (pa_cons pe_int (pa_cons pe_int pa_nil)))))))) pa_nil))))))
      (rss_cons (rs_ps (ps_par (i := 4) (j := 5) (by rfl) nd rfl rfl (by decide) rfl rfl (pa_cons (pe_mk cB hr (by decide) (by rfl) (pa_cons (pv 3) pa_nil)) (pa_cons (pe_callB call_len (by rfl) mlen boot_len (pa_cons (pv 3) pa_nil)) pa_nil)) (by rfl)))
      (rss_cut (rs_ps (ps_set (i := 6) nd rfl (.inl rfl) (pe_c cwd hr (by decide) (by rfl) (pa_cons (pv 1) (pa_cons (pv 5) (pa_cons pe_int pa_nil))))))
      (rss_cut (rs_setR lbed_lets lbed_num nd (i := 7) rfl (.inl rfl) (per_list nox (pmk_c cshort (hr.mono (by decide)) (by rfl) (pa_cons (pv 4) (pa_cons (pv 6) pa_nil))) (hr.mono (by decide)) (by rfl) mlist boot_list))
      (rss_cut (rs_ps (ps_set (i := 8) nd rfl (.inl rfl) (pe_c cunder hr (by decide) (by rfl) (pa_cons (pv 3) (pa_cons (pv 6) pa_nil)))))
      (rss_cut (rs_ps (ps_for PassesOwn.never rfl (pi_range1 (by rfl) mrange (pa_cons (pe_callB (call_min2 rfl) (by rfl) mmin (by decide +kernel) (pa_cons pe_int (pa_cons (pe_callB call_len (by rfl) mlen boot_len (pa_cons (pv 7) pa_nil)) pa_nil))) pa_nil)) (pg_name (i := 9) nd rfl (.inl rfl))
        (pss_one (ps_if (pt_cmpR (op_neD hr.units) (pe_c crows hr (by decide) (by rfl) (pa_cons (pv 3) (pa_cons (pe_ix ix_list (pv 7) (pe_c cdraw hr (by decide) (by rfl) (pa_cons (pv 1) (pa_cons (pe_callB call_len (by rfl) mlen boot_len (pa_cons (pv 7) pa_nil)) pa_nil))) (fun _ _ => rfl)) pa_nil))) (pv 8) (nomark _)) (pss_one (ps_ret pe_bl)) pss_nil))))
      (rss_cut (rs_ps (ps_if (pt_cmpR op_ne (pe_c ccount hr (by decide) (by rfl) (pa_cons (pv 4) (pa_cons (pv 6) pa_nil))) (pe_callB call_len (by rfl) mlen boot_len (pa_cons (pv 8) pa_nil)) (nomark _)) (pss_one (ps_ret pe_bl)) pss_nil))
      (rss_cut (rs_ps (ps_set (i := 10) nd rfl (.inl rfl) (pe_c cwd hr (by decide) (by rfl) (pa_cons (pv 1) (pa_cons (pv 5) (pa_cons pe_int pa_nil))))))
      (rss_cut (rs_ps (ps_set (i := 11) nd rfl (.inl rfl) (pe_c cbel hr (by decide) (by rfl) (pa_cons (pv 4) (pa_cons (pv 10) (pa_cons (pv 6) pa_nil))))))
      (rss_cut (rs_ps (ps_if (pt_cmpR op_ne (pe_c cbel hr (by decide) (by rfl) (pa_cons (pv 4) (pa_cons (pe_revL (pv 10)) (pa_cons (pe_revL (pv 6)) pa_nil)))) (pv 11) (nomark _)) (pss_one (ps_ret pe_bl)) pss_nil))
      (rss_one (rs_ps (ps_for PassesOwn.never rfl (pi_tup (pe_c clasts hr (by decide) (by rfl) (pa_cons (pv 4) (pa_cons (pv 6) pa_nil)))) (pg_name (i := 12) nd rfl (.inl rfl))
        (pss_cut (ps_set (i := 13) nd rfl (.inl rfl) (pe_ifExp (pt_cmpR op_in_seq (pv 12) (pe_c clasts hr (by decide) (by rfl) (pa_cons (pv 4) (pa_cons (pv 10) pa_nil))) (by rfl)) (pe_op op_cat (pv 10) (pe_lst (pa_cons (pv 12) pa_nil))) (pv 10)))
        (pss_one (ps_if (pt_cmpR op_ne (pe_c cbel hr (by decide) (by rfl) (pa_cons (pv 4) (pa_cons (pv 13) (pa_cons (pe_op op_cat (pv 6) (pe_lst (pa_cons (pv 12) pa_nil))) pa_nil)))) (pv 11) (nomark _)) (pss_one (ps_ret pe_bl)) pss_nil)))))))))))))))))
    (rss_one (rs_ps (ps_ret pe_bl)))), ?_⟩
  refine ⟨.ref a, rfl, a, ns, rfl, hL, hl, fun m cl gr H1 s1 nm ngr hM1 => ?_⟩
  refine ⟨3, rfl, by decide, by decide, gfor_range (lo := 0) (n := 3) (fun i ys σ H2 => (∃ y2 y3 y4 y5 y6 y7 y8 y9 y10 y11 y12 y13 : Option V, σ = [some (.ref a), some (.ref m), y2, y3, y4, y5, y6, y7, y8, y9, y10, y11, y12, y13]) ∧ ∃ c, c ≤ 200 * i ∧ Ms H2 m cl gr c)
    ⟨⟨_, _, _, _, _, _, _, _, _, _, _, _, rfl⟩, 0, Nat.zero_le _, hM1⟩ (fun i ys σ H2 hi3 z => ?_) (fun ys σ H2 z => q H2)⟩
  obtain ⟨⟨y2, y3, y4, y5, y6, y7, y8, y9, y10, y11, y12, y13, rfl⟩, c, hc, hM2⟩ := z
  have one1 : 1 ≤ sizeLine := by decide
  have big : 200000 < sizeLine := by decide
  -- the table
  refine ⟨fun _ σ H3 => ∃ (tb c3 : Nat) (S : Sys), σ = [some (.ref a), some (.ref m), some (.int (0 + (i : Nat))), some (.ref tb), y4, y5, y6, y7, y8, y9, y10, y11, y12, y13] ∧ c3 ≤ c + 30 ∧ Ms H3 m cl gr c3 ∧ Rtb H3 m gr tb S ∧ 1 ≤ S.n ∧ S.n ≤ 6, ?_, fun ys σ H3 z => ?_⟩
  · refine ⟨.ref m, rfl, .ref m, rfl, m, cl, gr, c, 4, rfl, hM2, by decide, by decide, by omega, fun v H3 hv s3 hM3 => ⟨1, _, rfl, rfl, (by show 7 ≤ sizeLine; decide), fun l nl => ?_⟩⟩
    have sl := same_upd (o := .lst [.int 2, .int 2, .int 3, .int 3, .int 4, .int 6, .int 0]) nl
    refine ⟨m, cl, gr, l, c + 1, 1 + v, ?_, hM3.same sl, by omega, by omega, by omega, upd_same, hM3.ngr nl, fun p as H4 T c4 hT s4 hM4 hc4 hTb np nas => ⟨p, c4, mkSys (1 + v) T hT, rfl, by omega, hM4, ⟨as, 1 + v, T, hT, rfl, hTb, fun y hy => ?_⟩, (by show 1 ≤ 1 + v; omega), (by show 1 + v ≤ 6; omega)⟩⟩
    · exact congrArg (fun z : Int => [V.ref m, .int z, .ref l]) (Int.natCast_add 1 v).symm
    · have h0 : (upd H3 l (.lst [.int 2, .int 2, .int 3, .int 3, .int 4, .int 6, .int 0])) y = none := hy.elim (fun z => z ▸ np) (fun z => nas y z)
      obtain ⟨_, _, e1, _, _, e2, _⟩ := hM3.same sl
      exact ⟨(fun z => by rw [z, e1] at h0; cases h0), (fun z => by rw [z, e2] at h0; cases h0)⟩
  obtain ⟨tb, c3, S, rfl, hc3, hM3, hR3, hS1, hS6⟩ := z
  -- the bonds
  refine ⟨.ref tb, rfl, fun x dx nx ndx ne => ?_⟩
  have s4 : Same H3 (upd (upd H3 dx (.own x)) x (.ins C dx [])) := fun y o e => by
    rw [upd_ne (ne_of_none e nx), upd_ne (ne_of_none e ndx)]
    exact e
  refine ⟨x, dx, tb, S, rfl, ne, upd_same, (by rw [upd_ne ne, upd_same]), (hR3.tb (K := K)).same s4, hS1, hS6, fun H5 keep hBo => ⟨rfl, ?_⟩⟩
  have s35 : Same H3 H5 := fun y o e => keep y o (s4 y o e) (ne_of_none e nx) (ne_of_none e ndx)
  have hM5 := hM3.same s35
  have hR5 := hR3.keep (Same.toM s35)
  refine ⟨.ref tb, rfl, .ref tb, S.n, rfl, (hR5.tb (K := K)).len, .ref x, .int (S.n : Nat), rfl, ?_⟩
  -- the word
  refine ⟨fun _ σ H6 => ∃ (wd c6 : Nat) (u : List Nat), σ = [some (.ref a), some (.ref m), some (.int (0 + (i : Nat))), some (.ref tb), some (.ref x), some (.int (S.n : Nat)), some (.ref wd), y7, y8, y9, y10, y11, y12, y13] ∧ c6 ≤ c + 50 ∧ Tn K C H6 m cl gr tb x wd c6 S u, ?_, fun ys σ H6 z => ?_⟩
  · exact ⟨.ref m, rfl, .int (S.n : Nat), rfl, m, cl, gr, c3, S.n, 8, rfl, hM5, hS1, hS6, by decide, by omega, fun t H6 u c6 s6 hM6 hc6 hul hlt ht nt => ⟨t, c6, u, rfl, by omega, hM6, hR5.keep s6, hM5.boM s6 hBo, hS1, hS6, ht, hM5.ngr nt, hlt, hul⟩⟩
  obtain ⟨wd, c6, u, rfl, hc6, hT6⟩ := z
  clear hM5 hR5 hR3 hM3 hBo
  have hW := hT6.rt.wt
  have hlt := hT6.lt
  have hul := hT6.len
  obtain ⟨k, hre, hk⟩ := reach_pr (S := S) u.reverse (fun l hl => hlt l (List.mem_reverse.mp hl)) Reach.zero
  rw [List.length_reverse] at hk
  obtain ⟨ky, hry, hky⟩ := reach_pr (S := S) u hlt Reach.zero
  have hwl : (wl S k (pr S.w u.reverse rho)).length ≤ 155520 := by
    have h1 := wl_le hS6 hre
    have h2 := wb_mono (show k ≤ 9 by omega)
    rw [wb9] at h2
    omega
  have hwp := wl_pos hre
  -- some
  refine ⟨fun _ σ H7 => ∃ so : Nat, σ = [some (.ref a), some (.ref m), some (.int (0 + (i : Nat))), some (.ref tb), some (.ref x), some (.int (S.n : Nat)), some (.ref wd), some (.ref so), y8, y9, y10, y11, y12, y13] ∧ Tn K C H7 m cl gr tb x wd c6 S u ∧ Wds K H7 so (wl S k (pr S.w u.reverse rho)) ∧ so ≠ gr, ?_, fun ys σ H7 z => ?_⟩
  · refine ⟨(wl S k (pr S.w u.reverse rho)).length, by omega, .ref x, rfl, .ref wd, rfl, x, wd, S, u, k, rfl, hT6.bo, hW, hS1, hS6, .inl (.inl (.inl hT6.wo)), hlt, by omega, hre, Nat.le_refl _, fun _ _ _ _ _ _ => trivial, fun zs H11 s11 hO => fun pl npl => ?_⟩
    obtain ⟨as2, rfl, el2, hO2⟩ := hO
    have s12 := same_upd (o := .lst (as2.map V.ref)) npl
    have hT11 := hT6.same s11
    exact ⟨pl, rfl, hT11.same s12, ⟨as2, upd_same, el2, fun i b v h1 h2 => Same.tup s12 (hO2 i b v h1 h2)⟩, hT11.ms.ngr npl⟩
  obtain ⟨so, rfl, hT7, hso7, nso⟩ := z
  -- due
  refine ⟨fun _ σ H8 => ∃ (du : Nat) (L : List (List Int)), σ = [some (.ref a), some (.ref m), some (.int (0 + (i : Nat))), some (.ref tb), some (.ref x), some (.int (S.n : Nat)), some (.ref wd), some (.ref so), some (.ref du), y9, y10, y11, y12, y13] ∧ Tn K C H8 m cl gr tb x wd c6 S u ∧ Wds K H8 so (wl S k (pr S.w u.reverse rho)) ∧ DueL S (lw S k (pr S.w u.reverse rho)) L ∧ LsT K H8 du L ∧ du ≠ gr, ?_, fun ys σ H8 z => ?_⟩
  · exact ⟨.ref tb, rfl, .ref wd, rfl, tb, wd, S, u, k, rfl, hT7.rt.tb, hW, hS1, hS6, .inl (.inl hT7.wo), hlt, hre, by omega, fun l H8 L s8 nl hdue hls => ⟨l, L, rfl, hT7.same s8, hso7.same s8, hdue, hls, hT7.ms.ngr nl⟩⟩
  obtain ⟨du, L, rfl, hT8, hso8, hdue, hdu8, ndu⟩ := z
  have hlwW := lw_isW hre
  -- any shortest word
  refine ⟨fun _ σ H9 => ∃ (c9 : Nat) (y9 : Option V), σ = [some (.ref a), some (.ref m), some (.int (0 + (i : Nat))), some (.ref tb), some (.ref x), some (.int (S.n : Nat)), some (.ref wd), some (.ref so), some (.ref du), y9, y10, y11, y12, y13] ∧ c9 ≤ c + 70 ∧ Tn K C H9 m cl gr tb x wd c9 S u ∧ LsT K H9 du L, ?_, fun ys σ H9 z => ?_⟩
  · obtain ⟨z12, hz, hz0, hz12⟩ : ∃ z12 : Int, (if (((wl S k (pr S.w u.reverse rho)).length : Nat) : Int) < 12 then (((wl S k (pr S.w u.reverse rho)).length : Nat) : Int) else 12) = z12 ∧ 0 ≤ z12 ∧ z12 ≤ 12 := ⟨_, rfl, by split <;> omega, by split <;> omega⟩
    have lenS : ∀ {Hx : Hp}, Wds K Hx so (wl S k (pr S.w u.reverse rho)) → LenV K (.ref so) Hx (wl S k (pr S.w u.reverse rho)).length := fun h => by
      obtain ⟨as, e, el, _⟩ := h
      exact .inl ⟨_, .inl (.inl e), by rw [List.length_map, el]⟩
    refine ⟨.ref so, rfl, .ref so, _, rfl, lenS hso8, 12, _, rfl, ?_⟩
    rw [hz]
    refine ⟨z12, rfl, by omega, by omega, ?_⟩
    refine for_range (lo := 0) (n := z12.toNat) (fun j σ H9 => ∃ (c9 : Nat) (y9 : Option V), σ = [some (.ref a), some (.ref m), some (.int (0 + (i : Nat))), some (.ref tb), some (.ref x), some (.int (S.n : Nat)), some (.ref wd), some (.ref so), some (.ref du), y9, y10, y11, y12, y13] ∧ c9 ≤ c + 50 + j ∧ Tn K C H9 m cl gr tb x wd c9 S u ∧ Wds K H9 so (wl S k (pr S.w u.reverse rho)) ∧ LsT K H9 du L)
      ⟨c6, _, rfl, by omega, hT8, hso8, hdu8⟩ (fun j σ H9 hj z => ?_) (fun σ H9 z => ?_)
    · obtain ⟨c9, y9, rfl, hc9, hT9, hso9, hdu9⟩ := z
      refine ⟨.ref tb, rfl, .ref so, rfl, .ref m, rfl, .ref so, rfl, .ref so, _, rfl, lenS hso9, m, cl, gr, c9, _, rfl, hT9.ms, hwp, by omega, by omega, fun v H10 hv s10 hM10 => ?_⟩
      have hT10 := hT9.keepM s10 hM10
      have hso10 := hso9.keepM hT9.ms s10 nso
      have hdu10 := hdu9.keepM hT9.ms s10 ndu
      obtain ⟨as, e1, e2, e3⟩ := id hso10
      have ea : as[v]? = some (as[v]'(by omega)) := List.getElem?_eq_getElem (by omega)
      have eU : (wl S k (pr S.w u.reverse rho))[v]? = some ((wl S k (pr S.w u.reverse rho))[v]'hv) := List.getElem?_eq_getElem hv
      generalize as[v]'(by omega) = b at ea
      generalize (wl S k (pr S.w u.reverse rho))[v]'hv = U at eU
      have hUW := (mem_wl hre).mp (List.mem_of_getElem? eU)
      have hUl := hUW.len hre
      refine ⟨so, _, _, .ref b, rfl, rfl, .inl (.inl e1), atI_nat (by rw [List.getElem?_map, ea]; rfl), tb, b, S, U, rfl, hT10.rt.tb, hW, hS1, hS6, e3 v b U ea eU, hUW.lt, by omega, fun l H11 L' s11 hdue' hls' => ?_⟩
      have eL : L' = L := DueL.uniq hdue' hdue fun r => sb_isW hre hUW hlwW rho r
      have hdu11 := hdu10.same s11
      refine ⟨.ref du, rfl, _, _, hls'.dp, hdu11.dp, shapedW _, shapedW _, _, rfl, ?_⟩
      rw [eqvW, decide_eq_true eL]
      exact ⟨c9 + 1, _, rfl, by omega, hT10.same s11, hso10.same s11, hdu11⟩
    · obtain ⟨c9, y9, rfl, hc9, hT9, hso9, hdu9⟩ := z
      exact ⟨c9, y9, rfl, by omega, hT9, hdu9⟩
  obtain ⟨c9, y9, rfl, hc9, hT9, hdu9⟩ := z
  clear hT8 hso8 hdu8 hso7 hT7 hT6
  -- how many
  refine ⟨fun _ σ H10 => σ = [some (.ref a), some (.ref m), some (.int (0 + (i : Nat))), some (.ref tb), some (.ref x), some (.int (S.n : Nat)), some (.ref wd), some (.ref so), some (.ref du), y9, y10, y11, y12, y13] ∧ Tn K C H10 m cl gr tb x wd c9 S u, ?_, fun ys σ H10 z => ?_⟩
  · refine ⟨.ref x, rfl, .ref wd, rfl, x, wd, S, u, k, rfl, hT9.bo, hW, hS1, hS6, .inl (.inl (.inl hT9.wo)), by omega, hlt, hre, by omega, fun H10 s10 => ⟨.ref du, rfl, .ref du, L.length, rfl, (hdu9.same s10).len, rfl, _, rfl, ?_⟩⟩
    rw [hdue.len hlwW.lt]
    rw [show (!decide (V.int (((rowsR S (lw S k (pr S.w u.reverse rho)) [rho]).length : Nat) : Int) = V.int (((rowsR S (lw S k (pr S.w u.reverse rho)) [rho]).length : Nat) : Int))) = false from by rw [decide_eq_true rfl]; rfl]
    exact ⟨rfl, hT9.same s10⟩
  obtain ⟨rfl, hT10⟩ := z
  -- one
  refine ⟨fun _ σ H11 => ∃ (on c11 : Nat) (v : List Nat), σ = [some (.ref a), some (.ref m), some (.int (0 + (i : Nat))), some (.ref tb), some (.ref x), some (.int (S.n : Nat)), some (.ref wd), some (.ref so), some (.ref du), y9, some (.ref on), y11, y12, y13] ∧ c11 ≤ c + 90 ∧ Tn K C H11 m cl gr tb x wd c11 S u ∧ H11 on = some (.lst (wv v)) ∧ v.length ≤ 7 ∧ ∀ l ∈ v, l < S.n, ?_, fun ys σ H11 z => ?_⟩
  · exact ⟨.ref m, rfl, .int (S.n : Nat), rfl, m, cl, gr, c9, S.n, 7, rfl, hT10.ms, hS1, hS6, by decide, by omega, fun t H6 v c6 s6 hM6 hc6 hvl hvt ht nt => ⟨t, c6, v, rfl, by omega, hT10.keepM s6 hM6, ht, hvl, hvt⟩⟩
  obtain ⟨on, c11, v, rfl, hc11, hT11, hon, hvl, hvt⟩ := z
  obtain ⟨kx, hrx, hkx⟩ := reach_pr (S := S) v hvt Reach.zero
  -- told
  refine ⟨fun _ σ H12 => σ = [some (.ref a), some (.ref m), some (.int (0 + (i : Nat))), some (.ref tb), some (.ref x), some (.int (S.n : Nat)), some (.ref wd), some (.ref so), some (.ref du), y9, some (.ref on), some (.bl (told S ky (pr S.w v rho) (pr S.w u rho))), y12, y13] ∧ Tn K C H12 m cl gr tb x wd c11 S u ∧ H12 on = some (.lst (wv v)), ?_, fun ys σ H12 z => ?_⟩
  · exact ⟨.ref x, rfl, .ref on, rfl, .ref wd, rfl, x, on, wd, S, v, u, ky, rfl, hT11.bo, hW, hS1, hS6, .inl (.inl (.inl hon)), .inl (.inl (.inl hT11.wo)), by omega, by omega, hvt, hlt, hry, fun H12 s12 => ⟨rfl, hT11.same s12, s12 _ _ hon⟩⟩
  obtain ⟨rfl, hT12, hon12⟩ := z
  -- the other way
  refine ⟨fun _ σ H13 => σ = [some (.ref a), some (.ref m), some (.int (0 + (i : Nat))), some (.ref tb), some (.ref x), some (.int (S.n : Nat)), some (.ref wd), some (.ref so), some (.ref du), y9, some (.ref on), some (.bl (told S ky (pr S.w v rho) (pr S.w u rho))), y12, y13] ∧ Tn K C H13 m cl gr tb x wd c11 S u ∧ H13 on = some (.lst (wv v)), ?_, fun ys σ H13 z => ?_⟩
  · refine ⟨.ref x, rfl, .ref on, rfl, on, wv v, rfl, .inl (.inl hon12), fun p1 np1 => ?_⟩
    have s1 := same_upd (o := .lst (wv v).reverse) np1
    refine ⟨.ref wd, rfl, wd, wv u, rfl, .inl (.inl (s1 _ _ hT12.wo)), fun p2 np2 => ?_⟩
    have s2 := same_upd (o := .lst (wv u).reverse) np2
    have s12 := Same.trans s1 s2
    have hT13 := hT12.same s12
    obtain ⟨kv, hrv, _⟩ := reach_pr (S := S) v.reverse (fun l hl => hvt l (List.mem_reverse.mp hl)) Reach.zero
    refine ⟨x, p1, p2, S, v.reverse, u.reverse, k, rfl, hT13.bo, hW, hS1, hS6, .inl (.inl (.inl (by rw [← wv_rev]; exact s2 _ _ upd_same))), .inl (.inl (.inl (by rw [← wv_rev]; exact upd_same))), by rw [List.length_reverse]; omega, by rw [List.length_reverse]; omega, fun l hl => hvt l (List.mem_reverse.mp hl), fun l hl => hlt l (List.mem_reverse.mp hl), hre, fun H14 s14 => ?_⟩
    have et : told S k (pr S.w v.reverse rho) (pr S.w u.reverse rho) = told S ky (pr S.w v rho) (pr S.w u rho) := told_eq hrv hre hrx hry (le_rev hvt hlt)
    rw [et]
    refine ⟨.bl (told S ky (pr S.w v rho) (pr S.w u rho)), rfl, rfl, _, rfl, ?_⟩
    rw [show (!decide (V.bl (told S ky (pr S.w v rho) (pr S.w u rho)) = V.bl (told S ky (pr S.w v rho) (pr S.w u rho)))) = false from by rw [decide_eq_true rfl]; rfl]
    exact ⟨rfl, hT13.same s14, s14 _ _ (s12 _ _ hon12)⟩
  obtain ⟨rfl, hT13, hon13⟩ := z
  -- by last letters
  refine ⟨.ref x, rfl, .ref wd, rfl, x, wd, S, u, rfl, hT13.bo, hW, hS1, hS6, .inl (.inl (.inl hT13.wo)), by omega, hlt, fun lp H14 s14 hlp => ⟨lp, rfl, ⟨_, hlp⟩, ?_⟩⟩
  refine for_tup (xs := wv (bl S.n (pr S.w u rho))) (fun j σ H15 => ∃ y12 y13 : Option V, σ = [some (.ref a), some (.ref m), some (.int (0 + (i : Nat))), some (.ref tb), some (.ref x), some (.int (S.n : Nat)), some (.ref wd), some (.ref so), some (.ref du), y9, some (.ref on), some (.bl (told S ky (pr S.w v rho) (pr S.w u rho))), y12, y13] ∧ Tn K C H15 m cl gr tb x wd c11 S u ∧ H15 on = some (.lst (wv v)) ∧ SqT K H15 lp (wv (bl S.n (pr S.w u rho))))
    ⟨_, _, rfl, hT13.same s14, s14 _ _ hon13, hlp⟩ (fun j σ H15 _ z => ?_) (fun j xx σ H15 hx z => ?_) (fun σ H15 z => ?_)
  · obtain ⟨_, _, _, _, _, z⟩ := z
    exact z
  · obtain ⟨y12, y13, rfl, hT15, hon15, hlp15⟩ := z
    obtain ⟨l, hl, rfl⟩ := wv_at hx
    obtain ⟨hln, hneg⟩ := mem_bl.mp (List.mem_of_getElem? hl)
    refine ⟨fun σ H16 => ∃ (ls : Nat) (v' : List Nat), σ = [some (.ref a), some (.ref m), some (.int (0 + (i : Nat))), some (.ref tb), some (.ref x), some (.int (S.n : Nat)), some (.ref wd), some (.ref so), some (.ref du), y9, some (.ref on), some (.bl (told S ky (pr S.w v rho) (pr S.w u rho))), some (.int ((l : Nat) + 1)), some (.ref ls)] ∧ Tn K C H16 m cl gr tb x wd c11 S u ∧ H16 on = some (.lst (wv v)) ∧ SqT K H16 lp (wv (bl S.n (pr S.w u rho))) ∧ H16 ls = some (.lst (wv v')) ∧ v'.length ≤ 8 ∧ (∀ l ∈ v', l < S.n) ∧ pr S.w v' rho = mn S l (pr S.w v rho), ?_, fun σ H16 z => ?_⟩
    · refine ⟨.int ((l : Nat) + 1), rfl, .ref x, rfl, .ref on, rfl, x, on, S, v, rfl, hT15.bo, hW, hS1, hS6, .inl (.inl (.inl hon15)), by omega, hvt, fun p2 H16 s16 hp2 => ?_⟩
      have hT16 := hT15.same s16
      have hon16 := s16 _ _ hon15
      have hlp16 := Same.tup s16 hlp15
      refine ⟨p2, _, rfl, .inr hp2, rfl, flat_wv _, _, rfl, ?_⟩
      rw [show (if false = true then !inV (V.int ((l : Nat) + 1)) (wv (bl S.n (pr S.w v rho))) else inV (V.int ((l : Nat) + 1)) (wv (bl S.n (pr S.w v rho)))) = decide (pr S.w v rho l < 0) from inV_letter S.n _ hln]
      refine ite2 (fun e => ?_) (fun e => ?_)
      · have e := of_decide_eq_true e
        refine ⟨.ref on, rfl, .int ((l : Nat) + 1), rfl, one1, fun l1 nl1 => ⟨on, l1, wv v, [.int ((l : Nat) + 1)], rfl, rfl, same_upd nl1 _ _ hon16, upd_same, ?_, fun p np => ?_⟩⟩
        · rw [wv_len]
          show v.length + 1 ≤ sizeLine
          omega
        · have s17 := Same.trans (same_upd (o := .lst [.int ((l : Nat) + 1)]) nl1) (same_upd (o := .lst (wv v ++ [.int ((l : Nat) + 1)])) np)
          refine ⟨p, v ++ [l], rfl, hT16.same s17, s17 _ _ hon16, Same.tup s17 hlp16, ?_, ?_, fun b hb => ?_, ?_⟩
          · rw [upd_same]
            unfold wv
            rw [List.map_append]
            rfl
          · rw [List.length_append]
            show v.length + 1 ≤ 8
            omega
          · rcases List.mem_append.mp hb with z | z
            · exact hvt b z
            · rw [List.mem_singleton.mp z]
              exact hln
          · rw [pr_append]
            unfold mn
            rw [if_pos e]
            rfl
      · have e := of_decide_eq_false (Bool.eq_false_iff.mpr e)
        refine ⟨.ref on, rfl, on, v, rfl, hT16, hon16, hlp16, hon16, by omega, hvt, ?_⟩
        unfold mn
        rw [if_neg e]
    obtain ⟨ls, v', rfl, hT16, hon16, hlp16, hls, hvl', hvt', epr⟩ := z
    refine ⟨.ref x, rfl, .ref ls, rfl, .ref wd, rfl, .int ((l : Nat) + 1), rfl, one1, fun l1 nl1 => ⟨wd, l1, wv u, [.int ((l : Nat) + 1)], rfl, rfl, same_upd nl1 _ _ hT16.wo, upd_same, ?_, fun p np => ?_⟩⟩
    · rw [wv_len]
      show u.length + 1 ≤ sizeLine
      omega
    · have s17 := Same.trans (same_upd (o := .lst [.int ((l : Nat) + 1)]) nl1) (same_upd (o := .lst (wv u ++ [.int ((l : Nat) + 1)])) np)
      have hT17 := hT16.same s17
      have hul1 : ∀ b ∈ u ++ [l], b < S.n := fun b hb => by
        rcases List.mem_append.mp hb with z | z
        · exact hlt b z
        · rw [List.mem_singleton.mp z]
          exact hln
      have e1 : pr S.w (u ++ [l]) rho = press S.w l (pr S.w u rho) := by rw [pr_append]; rfl
      obtain ⟨k2, _, hr2⟩ := hry.dn hln hneg
      obtain ⟨k3, hr3⟩ := mn_reach hrx hln
      refine ⟨x, ls, p, S, v', u ++ [l], k2, rfl, hT17.bo, hW, hS1, hS6, .inl (.inl (.inl (s17 _ _ hls))), .inl (.inl (.inl (by rw [upd_same]; unfold wv; rw [List.map_append]; rfl))), by omega, by rw [List.length_append]; show u.length + 1 ≤ 60; omega, hvt', hul1, by rw [e1]; exact hr2, fun H18 s18 => ?_⟩
      have et : told S k2 (pr S.w v' rho) (pr S.w (u ++ [l]) rho) = told S ky (pr S.w v rho) (pr S.w u rho) := by
        rw [epr, e1]
        exact told_eq hr3 hr2 hrx hry (le_last hry hln hneg).symm
      rw [et]
      refine ⟨.bl (told S ky (pr S.w v rho) (pr S.w u rho)), rfl, rfl, _, rfl, ?_⟩
      rw [show (!decide (V.bl (told S ky (pr S.w v rho) (pr S.w u rho)) = V.bl (told S ky (pr S.w v rho) (pr S.w u rho)))) = false from by rw [decide_eq_true rfl]; rfl]
      have s78 := Same.trans s17 s18
      exact ⟨_, _, rfl, hT17.same s18, s78 _ _ hon16, Same.tup s78 hlp16⟩
  · obtain ⟨y12, y13, rfl, hT15, _⟩ := z
    exact ⟨⟨_, _, _, _, _, _, _, _, _, _, _, _, rfl⟩, c11, by omega, hT15.ms⟩
end
end Bw
-- WmJ
set_option autoImplicit true
set_option maxRecDepth 512
set_option Elab.async false
set_option linter.all false
set_option maxRecDepth 100000
set_option maxHeartbeats 4000000
/-! WmJ: the head's data, the top's run. -/
namespace Bw
open PySem PySem.Spec PyProof.Rows L2 C8 Ra
def fnA : List He.DefD := [d_is_whole, d_is_among, d_is_list, d_is_bond, d_need_rows, d_Bonds_init, d_Bonds_len, d_Bonds_need_letter, d_Bonds_weight, d_need_word, d_start, d_pressed, d_row_by, d_row_of, d_below, d_undone, d_shortest_by, d_lasts, d_is_under, d_is_below]
def fnB : List He.DefD := [d_listed, d_rows_below, d_count_below, d_need_led, d_Counter_init, d_Counter_words, d_other_row, d_shortest_words, d_L_mixed, d_L_folded, d_L_draw, d_L_begun, d_L_table, d_L_weight, d_L_pressed, d_L_row, d_L_back, d_L_least, d_L_word, d_L_under, d_L_rows_by, d_law]
def fn43 : List He.DefD := fnA ++ fnB
def glosA : List Str := ["is_whole", "is_among", "is_list", "is_bond", "need_rows", "Bonds", "need_word", "start", "pressed", "row_by", "row_of", "below", "undone", "shortest_by", "lasts", "is_under", "is_below", "listed", "rows_below", "count_below"]
def glosB : List Str := ["need_led", "Counter", "other_row", "shortest_words", "_law_mixed", "_law_folded", "_law_draw", "_law_begun", "_law_table", "_law_weight", "_law_pressed", "_law_row", "_law_back", "_law_least", "_law_word", "_law_under", "_law_rows_by", "law", "WEIGHTS", "KINDS"]
def glos43 : List Str := glosA ++ glosB
def frees43 : List Str := ["isinstance", "int", "bool", "list", "tuple", "len", "range", "enumerate", "sorted", "min", "set"]
def fa43 : List He.Fa := [.int "MOST_LETTERS" 6, .int "MOST_WORD" 60, .int "MOST_LED" 16, .int "MOST_LISTED" 12, .cls "Counter", .noat "Counter" "bonds", .noat "Counter" "goal", .noat "Counter" "known", .meth "Counter" "words", .mkr "Counter", .mkr "Bonds", .meth "Bonds" "__len__", .meth "Bonds" "need_letter", .meth "Bonds" "weight"] ++ (glos43.map .glo ++ frees43.map .free)
/-- the descriptor of a slot -/
def slP (K : PySem.W.Frag) (C : Addr) (f : Str) : Addr := match PySem.W.findIn K (.ref C) f with
  | some (some (.ref p)) => p
  | _ => 0
def clsB (K : PySem.W.Frag) (C : Addr) : Bool := PySem.W.plainGet K C Str.empty && (PySem.W.isClsIn K C && (PySem.W.plainOver K C && He.eqO (PySem.W.findIn K (.ref C) "__setattr__") (some (some (.builtin "object.__setattr__")))))
def slotB (K : PySem.W.Frag) (C : Addr) (f : Str) (i : Nat) : Bool := He.eqO (PySem.W.findIn K (.ref C) f) (some (some (.ref (slP K C f)))) && (He.eqO (PySem.W.specialIn K (.ref (slP K C f)) "__get__") (some (some (.builtin "member_descriptor.__get__"))) &&
  (decide (PySem.W.takesIn K (.ref (slP K C f)) = some true) && (decide (PySem.W.typeIn K (.ref (slP K C f)) = some (.type "member_descriptor")) && (decide (PySem.W.slotIn K (slP K C f) C = some i) && decide (i < 1000)))))
theorem clsB_ok {K : PySem.W.Frag} {C : Addr} (h : clsB K C = true) : SlX.SCls K C := by
  obtain ⟨h1, h⟩ := He.ba h
  obtain ⟨h2, h⟩ := He.ba h
  obtain ⟨h3, h4⟩ := He.ba h
  exact ⟨h1, h2, h3, He.eqO_ok h4⟩
theorem slotB_ok {K : PySem.W.Frag} {C : Addr} {f : Str} {i : Nat} (h : slotB K C f i = true) : SlX.Slot1 K C f (slP K C f) i := by
  obtain ⟨h1, h⟩ := He.ba h
  obtain ⟨h2, h⟩ := He.ba h
  obtain ⟨h3, h⟩ := He.ba h
  obtain ⟨h4, h⟩ := He.ba h
  obtain ⟨h5, h6⟩ := He.ba h
  exact ⟨He.eqO_ok h1, He.eqO_ok h2, of_decide_eq_true h3, of_decide_eq_true h4, of_decide_eq_true h5, of_decide_eq_true h6⟩
def ex43 (K : PySem.W.Frag) : Bool := clsB K (He.ga K "Bonds") && (slotB K (He.ga K "Bonds") "table" 0 && (He.tupB K "KINDS" [.int 2, .int 3, .int 4, .int 6, .int 0] && (wdB K "WEIGHTS" wts && decide (He.ga K "Bonds" ≠ He.ga K "Counter"))))
abbrev R43 : PySem.W.OpenRow := PySem.W.OpenLaw.row PySem.Challenge.rw_bondwords_k43_whole_any_shortest_word
abbrev hk43 : PySem.W.Hook := He.hookX 6 fa43 fn43 [] [] ex43
def ob43 (s : PySem.W.SharedT) : He.AlX := He.obsX 6 fa43 fn43 [] [] ex43 (HandSHeadRun.getT s)
theorem ob43_eq (s : PySem.W.SharedT) : ob43 s = hk43.obs s.abs := He.obsX_eq (HandSHeadRun.getT_eq s)
theorem run43 (w : World) : HandSHeadRun.RunEq R43 (PySem.W.view R43.prog [lawAt]) hk43 ob43 4000 loose w :=
  PySem.W.byRow2 "special-get-raises" (P := fun w => HandSHeadRun.RunEq R43 (PySem.W.view R43.prog [lawAt]) hk43 ob43 4000 loose w) (fun w => by intro os; kernel_rfl) (fun w => by intro os; kernel_rfl) w
end Bw
-- WmK
set_option autoImplicit true
set_option maxRecDepth 512
set_option Elab.async false
set_option linter.all false
set_option maxRecDepth 100000
set_option maxHeartbeats 4000000
/-! WmK: the promises of all defs, joined at the head. -/
namespace Bw
open PySem PySem.Spec PyProof.Rows L2 C8 Ra
theorem wts_nodup : (wts.map (·.1)).Nodup := by decide
theorem in_glo {x : Str} (h : x ∈ glos43) : He.Fa.glo x ∈ fa43 := List.mem_append_right _ (List.mem_append_left _ (List.mem_map_of_mem h))
theorem in_free {x : Str} (h : x ∈ frees43) : He.Fa.free x ∈ fa43 := List.mem_append_right _ (List.mem_append_right _ (List.mem_map_of_mem h))
section
variable {w : World} {K : PySem.W.Frag} {mg : Str → Option Value} {h : Heap}
theorem gd_of (X : K.In h) (G : h.Ns mainGlobals mg) (c : He.SaysD fa43 fn43 K) (i : Nat) {x : Str} {st : Stmt} (hg : x ∈ glos43) (hd : fn43[i]? = some (⟨(x, none), x, x, defArgs st, defBody st, defScope st, [], []⟩ : He.DefD)) : GD K mg x st := by
  obtain ⟨fd, F⟩ := c.defs (List.mem_of_getElem? hd)
  exact ⟨_, fd, F, He.glo_ok X G (c.facts (in_glo hg))⟩
theorem md_of (c : He.SaysD fa43 fn43 K) (i j : Nat) {C m qual : Str} {st : Stmt} (hg : fa43[j]? = some (.meth C m)) (hd : fn43[i]? = some (⟨(C, some m), m, qual, defArgs st, defBody st, defScope st, [], []⟩ : He.DefD)) : MD K (He.ga K C) m qual st := by
  obtain ⟨fd, F⟩ := c.defs (List.mem_of_getElem? hd)
  exact ⟨_, fd, F, He.meth_ok (c.facts (List.mem_of_getElem? hg))⟩
theorem id_of (X : K.In h) (G : h.Ns mainGlobals mg) (c : He.SaysD fa43 fn43 K) (i j : Nat) {x qual : Str} {st : Stmt} (hg : fa43[j]? = some (.mkr x)) (hx : x ∈ glos43) (hd : fn43[i]? = some (⟨(x, some "__init__"), "__init__", qual, defArgs st, defBody st, defScope st, [], []⟩ : He.DefD)) : ID K mg x (He.ga K x) qual st := by
  obtain ⟨fd, F⟩ := c.defs (List.mem_of_getElem? hd)
  exact ⟨_, fd, F, He.mkr_ok (c.facts (List.mem_of_getElem? hg)), He.glo_ok X G (c.facts (in_glo hx))⟩
end
theorem facts43 {w : World} {K : PySem.W.Frag} {h : Heap} {mg : Str → Option Value} {f : Addr} (X : K.In h) (G : h.Ns mainGlobals mg) (hfa : mg ("law" : Str) = some (.ref f)) (c : He.SaysD fa43 fn43 K) (more : ex43 K = true) :
    ∃ fd : FuncData, (∀ (s : Shared) (v : Value), BindsTo s fd ⟨[v], []⟩ [("script", v)]) ∧ ∀ (P : Program) (Φ : Outcome → Shared → Prop) (base : Heap), K.In base → base.Ns mainGlobals mg → LFn P w Φ K mg base 60 f fd ["script"] (spLaw K) := by
  obtain ⟨e1, more⟩ := He.ba more
  obtain ⟨e2, more⟩ := He.ba more
  obtain ⟨e3, more⟩ := He.ba more
  obtain ⟨e4, e5⟩ := He.ba more
  have SC := clsB_ok e1
  have SL := slotB_ok e2
  have hk : ∀ H, SqT K H (He.ga K "KINDS") ([(2 : Int), 3, 4, 6, 0].map V.int) := fun H => He.tupB_ok e3 H
  have hw := wdB_ok e4 wts_nodup
  have hCC : He.ga K "Bonds" ≠ He.ga K "Counter" := of_decide_eq_true e5
  have CF1 : CF K (He.ga K "Counter") := ⟨He.cls_ok (c.fact 4 rfl), He.noat_ok (c.fact 5 rfl), He.noat_ok (c.fact 6 rfl), He.noat_ok (c.fact 7 rfl)⟩
  have gl : ∀ {x : Str}, x ∈ glos43 → mg x = some (.ref (He.ga K x)) := fun hx => He.glo_ok X G (c.facts (in_glo hx))
  have fr : ∀ {x : Str}, x ∈ frees43 → mg x = none := fun hx => He.free_ok X G (c.facts (in_free hx))
  obtain ⟨t6, m6⟩ := He.int_ok X G (x := "MOST_LETTERS") (i := 6) (c.fact 0 rfl)
  obtain ⟨t60, m60⟩ := He.int_ok X G (x := "MOST_WORD") (i := 60) (c.fact 1 rfl)
  obtain ⟨t16, m16⟩ := He.int_ok X G (x := "MOST_LED") (i := 16) (c.fact 2 rfl)
  obtain ⟨t12, m12⟩ := He.int_ok X G (x := "MOST_LISTED") (i := 12) (c.fact 3 rfl)
  obtain ⟨fd, F⟩ := c.def_ 41 (d := d_law) rfl
  have e := hfa.symm.trans (gl (x := "law") (by decide))
  cases e
  have b := FunD.bindsA (ps := ["script"]) F fun _ _ _ _ _ _ us hl => match us, hl with | [_], _ => rfl
  refine ⟨fd, fun s v => b s [v] rfl, fun P Φ base hKb hGb => ?_⟩
  have D : ∀ (i : Nat) {x : Str} {st : Stmt} (hg : x ∈ glos43) (hd : fn43[i]? = some (⟨(x, none), x, x, defArgs st, defBody st, defScope st, [], []⟩ : He.DefD)), GD K mg x st := fun i _ _ hg hd => gd_of X G c i hg hd
  have misinstance := fr (x := "isinstance") (by decide)
  have mint := fr (x := "int") (by decide)
  have mbool := fr (x := "bool") (by decide)
  have mlist := fr (x := "list") (by decide)
  have mtuple := fr (x := "tuple") (by decide)
  have mlen := fr (x := "len") (by decide)
  have mrange := fr (x := "range") (by decide)
  have menum := fr (x := "enumerate") (by decide)
  have mmin := fr (x := "min") (by decide)
  have mset := fr (x := "set") (by decide)
  have msorted := fr (x := "sorted") (by decide)
  have c_whole := ok_is_whole (P := P) (w := w) (base := base) (D 0 (st := s_is_whole) (by decide) rfl) misinstance mint mbool
  have c_among := ok_is_among (P := P) (w := w) (base := base) (D 1 (st := s_is_among) (by decide) rfl) c_whole
  have c_list := ok_is_list (P := P) (w := w) (base := base) (D 2 (st := s_is_list) (by decide) rfl) misinstance mlist mtuple
  have c_bond := ok_is_bond (P := P) (w := w) (base := base) (D 3 (st := s_is_bond) (by decide) rfl) c_whole c_among (gl (by decide)) hk
  have c_rows := ok_need_rows (P := P) (w := w) (base := base) (D 4 (st := s_need_rows) (by decide) rfl) c_list c_bond mlen mrange m6 ⟨_, rfl⟩
  have t_len := ok_Blen (P := P) (w := w) (base := base) SC (md_of c 6 11 (st := s_Bonds_len) rfl rfl) SL mlen
  have t_needl := ok_needL (P := P) (w := w) (base := base) SC (md_of c 7 12 (st := s_Bonds_need_letter) rfl rfl) SL mlen c_among
  have t_weight := ok_weight (P := P) (w := w) (base := base) SC (md_of c 8 13 (st := s_Bonds_weight) rfl rfl) SL (gl (by decide)) hw t_needl
  have k_bonds := ok_Binit (P := P) (w := w) (base := base) SC (id_of X G c 5 10 (st := s_Bonds_init) rfl (by decide) rfl) SL mtuple c_rows
  have c_word := ok_need_word (P := P) (w := w) (base := base) (D 9 (st := s_need_word) (by decide) rfl) c_list c_among t_len mlen menum m60 ⟨_, rfl⟩
  have c_start := ok_start (P := P) (w := w) (base := base) (D 10 (st := s_start) (by decide) rfl) t_len mlen
  have c_pressed := ok_pressed (P := P) (w := w) (base := base) (D 11 (st := s_pressed) (by decide) rfl) t_weight mtuple menum
  have c_rowby := ok_row_by (P := P) (w := w) (base := base) (D 12 (st := s_row_by) (by decide) rfl) c_start c_pressed
  have c_rowof := ok_row_of (P := P) (w := w) (base := base) (D 13 (st := s_row_of) (by decide) rfl) c_word c_rowby
  have c_below := ok_below (P := P) (w := w) (base := base) (D 14 (st := s_below) (by decide) rfl) mtuple menum
  have c_undone := ok_undone (P := P) (w := w) (base := base) (D 15 (st := s_undone) (by decide) rfl) c_below c_pressed c_start mlen mtuple m60 ⟨_, rfl⟩
  have c_shb := ok_shb (P := P) (w := w) (base := base) (D 16 (st := s_shortest_by) (by decide) rfl) c_rowby c_undone mtuple
  have c_lasts := ok_lasts (P := P) (w := w) (base := base) (D 17 (st := s_lasts) (by decide) rfl) c_rowof c_below
  have c_under := ok_under (P := P) (w := w) (base := base) (D 18 (st := s_is_under) (by decide) rfl) c_below c_pressed c_start
  have c_isbelow := ok_is_below (P := P) (w := w) (base := base) (D 19 (st := s_is_below) (by decide) rfl) c_word c_rowby c_under
  have c_listed := ok_listed (P := P) (w := w) (base := base) (D 20 (st := s_listed) (by decide) rfl) c_word c_shb mlen m12 ⟨_, rfl⟩
  have c_rowsb := ok_rows_below (P := P) (w := w) (base := base) (D 21 (st := s_rows_below) (by decide) rfl) c_start c_pressed mlist
  have c_countb := ok_count_below (P := P) (w := w) (base := base) (D 22 (st := s_count_below) (by decide) rfl) c_listed c_rowsb mlen
  have c_led := ok_need_led (P := P) (w := w) (base := base) (D 23 (st := s_need_led) (by decide) rfl) c_word mlen m16 ⟨_, rfl⟩
  have k_counter := ok_Cinit (P := P) (w := w) (base := base) CF1 hCC (id_of X G c 24 9 (st := s_Counter_init) rfl (by decide) rfl) c_start
  have c_other := ok_other (P := P) (w := w) (base := base) (D 26 (st := s_other_row) (by decide) rfl) c_rowby mtuple
  have t_words := ok_words (Φ := Φ) (C := He.ga K "Bonds") (P := P) (w := w) (base := base) CF1 (md_of c 25 8 (st := s_Counter_words) rfl rfl) c_below c_pressed
  have c_short := ok_short (Φ := Φ) (P := P) (w := w) (base := base) CF1 (D 27 (st := s_shortest_words) (by decide) rfl) c_led k_counter c_other t_words
  have l_mixed := ok_mixed (P := P) (w := w) (base := base) (D 28 (st := s_L_mixed) (by decide) rfl) mint
  have l_folded := ok_folded (P := P) (w := w) (base := base) (D 29 (st := s_L_folded) (by decide) rfl) mint mrange menum
  have l_draw := ok_draw (P := P) (w := w) (base := base) (D 30 (st := s_L_draw) (by decide) rfl) l_mixed mint mlen
  have l_begun := ok_begun (P := P) (w := w) (base := base) (D 31 (st := s_L_begun) (by decide) rfl) l_folded
  have l_table := ok_tab (P := P) (w := w) (base := base) (D 32 (st := s_L_table) (by decide) rfl) l_draw mrange mlen
  have l_weight := ok_lw (P := P) (w := w) (base := base) (D 33 (st := s_L_weight) (by decide) rfl) 
  have l_pressed := ok_lp (P := P) (w := w) (base := base) (D 34 (st := s_L_pressed) (by decide) rfl) l_weight mtuple mrange mlen
  have l_row := ok_lr (P := P) (w := w) (base := base) (D 35 (st := s_L_row) (by decide) rfl) l_pressed mlen
  have l_back := ok_back (P := P) (w := w) (base := base) (D 36 (st := s_L_back) (by decide) rfl) l_pressed mmin mrange mlen
  have l_least := ok_ll (P := P) (w := w) (base := base) (D 37 (st := s_L_least) (by decide) rfl) l_back l_row mtuple mlist
  have l_word := ok_lwd (P := P) (w := w) (base := base) (D 38 (st := s_L_word) (by decide) rfl) l_draw mrange
  have l_under := ok_lu (P := P) (w := w) (base := base) (D 39 (st := s_L_under) (by decide) rfl) l_least l_pressed mlen mset msorted
  have l_rowsby := ok_rows_by (P := P) (w := w) (base := base) (D 40 (st := s_L_rows_by) (by decide) rfl) l_pressed mlist mlen msorted
  exact ok_law F k_bonds l_begun l_table l_word l_under l_rowsby l_draw c_countb c_short c_isbelow c_lasts mlist mlen mrange mmin
end Bw
-- WmL
set_option autoImplicit true
set_option maxRecDepth 512
set_option Elab.async false
set_option linter.all false
set_option maxRecDepth 100000
set_option maxHeartbeats 0
/-! WmL: the head. -/
open PySem PySem.W PySem.Calls PyProof.Rows
theorem PySem.Challenge.cw_bondwords_k43_whole_any_shortest_word_holds : PySem.Challenge.rw_bondwords_k43_whole_any_shortest_word.Holds := by
  w_on; o_law
  refine Ra.head_real (l := PySem.Challenge.rw_bondwords_k43_whole_any_shortest_word) (n := 63) (q := view PySem.Challenge.rw_bondwords_k43_whole_any_shortest_word.row.prog [Bw.lawAt]) (H := Bw.hk43) (ob := Bw.ob43) (M := 4000) (loose := Bw.loose) (d := HandSHeadRun.topDef PySem.Challenge.rw_bondwords_k43_whole_any_shortest_word.row.prog Bw.lawAt) Bw.ob43_eq
    (by kernel_rfl) (fun s => by kernel_rfl) Bw.run43 (by kernel_rfl) (by kernel_rfl) (by kernel_rfl) (by first | assumption | decide +kernel) (by decide +kernel) ⟨rfl, rfl, rfl, rfl, rfl, by decide +kernel⟩ ?hw rfl (by kernel_rfl) ?hc
  case hw => w_witness2
  case hc =>
    refine Ra.walkR_of (k := 60) (x := "script") (by decide) (Ra.ac_room.mono (by decide)) ?F
    intro w mg fa h Y G hmg0
    obtain ⟨K, KX, c⟩ := Y
    have hmg : mg ("law" : PySem.Str) = some (.ref fa) := by
      have e : (HandSHeadRun.topDef PySem.Challenge.rw_bondwords_k43_whole_any_shortest_word.row.prog Bw.lawAt).name = ("law" : PySem.Str) := by kernel_rfl
      rw [← e]
      exact hmg0
    obtain ⟨fd, hb, hF⟩ := Bw.facts43 KX G hmg c.t.d c.more
    exact ⟨K, fd, Bw.spLaw K, KX, hb, fun H a ns hl _ _ hS => ⟨a, ns, rfl, hS, by omega, fun _ => rfl⟩, fun Φ base hKb hGb => hF _ Φ base hKb hGb⟩
