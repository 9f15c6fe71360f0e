import PyProof.Rows.All
import Wide.All
import OpenK.AllK
import Wide.FinOn
import HandS.ForMost
import HandS.Defaults
import HandS.IsInst
import HandS.NoneIn
import HandS.TupAny
import HandS.TupLen
import HandS.Style
import HandS.SetKeys
import HandS.Conv
import HandS.SortRule
import PyProof.DictMoreH
import KE.KStateDown
import HandS.Head0
import HandS.Head1
import HandS.Head2
import HandS.HeadEnd
import HandS.HeadHook1
import HandS.HeadHook2
import HandS.Flow
import HandS.Sort
import PySem.Challenge.RW_translatory_k44_whole_the_universal_mach
set_option Elab.async false
set_option linter.all false
set_option maxRecDepth 100000
set_option maxHeartbeats 0
/-! The universal machine on two tracks (signs, digits): it runs a coded machine alike. Plain Lean, no program in sight. -/
namespace UM
inductive Q where
  | home | find (d : Nat) | entry (d : Nat) | second | move (w d : Nat) | write (w s d : Nat)
  | again (s d : Nat) | skip (s d : Nat) | over (s : Nat) | units (s : Nat) | unmark (s : Nat) | left (s : Nat) | first (s : Nat)
  | seek (s : Nat) | rewind (s : Nat) | active (s : Nat) | next (s : Nat) | restart (s : Nat)
  | homeward | begin_ | right (c : Nat) | carry (c : Nat)
  deriving DecidableEq
abbrev Act := Nat × Nat × Int × Q
def sk (x : Nat) (m : Int) (fol self : Q) (s d : Nat) : Option Act := if s = x then some (s, d, 1, fol) else some (s, d, m, self)
/-- what the universal machine does in a state at a sign over a digit: sign, digit, move, state -/
def dl : Q → Nat → Nat → Option Act
  | .home, s, d => if s = 1 then some (1, d, 1, .find d) else none
  | .find e, s, d => sk 4 1 (.entry e) (.find e) s d
  | .entry e, s, d => if e = 0 then (if s = 7 ∨ s = 8 then some (s, d, 1, .move (s - 7) 0) else none) else sk 12 1 .second (.entry e) s d
  | .second, s, d => if s = 7 ∨ s = 8 then some (s, d, 1, .move (s - 7) 1) else none
  | .move w e, s, d => if s = 9 ∨ s = 10 ∨ s = 11 then some (s, d, -1, .write w s e) else none
  | .write w x e, s, d => if s = 1 then some (1, w, 1, .again x e) else if 2 ≤ s then some (s, d, -1, .write w x e) else none
  | .again x e, s, d => sk 4 1 (.skip x e) (.again x e) s d
  | .skip x e, s, d => if e = 0 then (if s = 7 ∨ s = 8 then some (s, d, 1, .over x) else none) else sk 12 1 (.skip x 0) (.skip x e) s d
  | .over x, s, d => if s = 9 ∨ s = 10 ∨ s = 11 then some (s, d, 1, .units x) else none
  | .units x, s, d => if s = 5 then some (6, d, 1, .units x) else if s = 12 then some (12, d, -1, .unmark x) else none
  | .unmark x, s, d => if s = 4 then some (3, d, -1, .left x) else some (s, d, -1, .unmark x)
  | .left x, s, d => sk 1 (-1) (.first x) (.left x) s d
  | .first x, s, d => if s = 3 then some (4, d, 1, .seek x) else none
  | .seek x, s, d => if s = 6 then some (5, d, -1, .rewind x) else if s = 2 then (if x = 9 then some (0, d, -1, .carry 2) else if x = 10 then some (2, d, -1, .homeward) else if x = 11 then some (2, d, -1, .begin_) else none) else some (s, d, 1, .seek x)
  | .rewind x, s, d => sk 1 (-1) (.active x) (.rewind x) s d
  | .active x, s, d => if s = 4 then some (3, d, 1, .next x) else some (s, d, 1, .active x)
  | .next x, s, d => if s = 3 then some (4, d, -1, .restart x) else some (s, d, 1, .next x)
  | .restart x, s, d => sk 1 (-1) (.seek x) (.restart x) s d
  | .homeward, s, d => if s = 1 then some (1, d, 0, .home) else some (s, d, -1, .homeward)
  | .begin_, s, d => if s = 1 then some (0, d, 1, .right 1) else some (s, d, -1, .begin_)
  | .right c, s, d => if c = 2 then some (2, d, -1, .homeward) else some (c, d, 1, .right (max 1 s))
  | .carry c, s, d => if c = 1 then some (1, d, 0, .home) else some (c, d, -1, .carry (max 1 s))
def up (S : Int → Nat) (p : Int) (v : Nat) : Int → Nat := fun i => if i = p then v else S i
theorem up_self (S : Int → Nat) (p : Int) : up S p (S p) = S := by
  funext i
  unfold up
  split
  · rename_i h; rw [h]
  · rfl
theorem up_same (S : Int → Nat) (p : Int) (v : Nat) : up S p v p = v := by unfold up; rw [if_pos rfl]
theorem up_ne {S : Int → Nat} {p i : Int} {v : Nat} (h : i ≠ p) : up S p v i = S i := by unfold up; rw [if_neg h]
/-- a configuration on the two tracks -/
structure T where
  q : Q
  p : Int
  S : Int → Nat
  D : Int → Nat
def stepT (c : T) : Option T := match dl c.q (c.S c.p) (c.D c.p) with
  | some (w, e, m, q') => some ⟨q', c.p + m, up c.S c.p w, up c.D c.p e⟩
  | none => none
/-- so many steps, the state being home in none of the configurations but perhaps the last -/
inductive Path : T → Nat → T → Prop
  | refl (c : T) : Path c 0 c
  | step {c c1 c2 : T} {n : Nat} (h : c.q ≠ .home) (e : stepT c = some c1) (r : Path c1 n c2) : Path c (n + 1) c2
theorem Path.trans {a b c : T} {n m : Nat} (h : Path a n b) (g : Path b m c) : Path a (n + m) c := by
  induction h with
  | refl _ => rw [Nat.zero_add]; exact g
  | step h e _ ih => rw [Nat.succ_add]; exact .step h e (ih g)
def Run (B : Nat) (a b : T) : Prop := ∃ n, n ≤ B ∧ Path a n b
theorem Run.refl {a : T} {B : Nat} : Run B a a := ⟨0, Nat.zero_le _, .refl a⟩
theorem Run.trans {a b c : T} {n m k : Nat} (h : Run n a b) (g : Run m b c) (le : n + m ≤ k) : Run k a c := by
  obtain ⟨i, hi, h⟩ := h
  obtain ⟨j, hj, g⟩ := g
  exact ⟨i + j, by omega, h.trans g⟩
theorem Run.mono {a b : T} {n m : Nat} (h : Run n a b) (le : n ≤ m) : Run m a b := by
  obtain ⟨i, hi, h⟩ := h
  exact ⟨i, by omega, h⟩
/-- one step -/
theorem one {q q' : Q} {p p' : Int} {S D S' D' : Int → Nat} {w e : Nat} {m : Int} (hq : q ≠ .home) (h : dl q (S p) (D p) = some (w, e, m, q')) (hp : p' = p + m) (hS : S' = up S p w) (hD : D' = up D p e) : Run 1 ⟨q, p, S, D⟩ ⟨q', p', S', D'⟩ := by
  refine ⟨1, Nat.le_refl _, .step hq ?_ (.refl _)⟩
  unfold stepT
  dsimp only
  rw [h]
  dsimp only
  rw [hp, hS, hD]
/-- one step that keeps the digit -/
theorem one1 {q q' : Q} {p p' : Int} {S D S' : Int → Nat} {w : Nat} {m : Int} (hq : q ≠ .home) (h : dl q (S p) (D p) = some (w, D p, m, q')) (hp : p' = p + m) (hS : S' = up S p w) : Run 1 ⟨q, p, S, D⟩ ⟨q', p', S', D⟩ :=
  one hq h hp hS (up_self D p).symm
/-- .. and the sign -/
theorem one0 {q q' : Q} {p p' : Int} {S D : Int → Nat} {m : Int} (hq : q ≠ .home) (h : dl q (S p) (D p) = some (S p, D p, m, q')) (hp : p' = p + m) : Run 1 ⟨q, p, S, D⟩ ⟨q', p', S, D⟩ :=
  one1 hq h hp (up_self S p).symm
theorem sweepR {q : Q} (hq : q ≠ .home) {S D : Int → Nat} : ∀ (n : Nat) (p p' : Int), p' = p + n → (∀ i, p ≤ i → i < p' → dl q (S i) (D i) = some (S i, D i, 1, q)) → Run n ⟨q, p, S, D⟩ ⟨q, p', S, D⟩
  | 0, p, p', e, _ => by
    have : p' = p := by omega
    subst this
    exact .refl
  | n + 1, p, p', e, h => (one0 hq (h p (Int.le_refl _) (by omega)) rfl).trans (sweepR hq n (p + 1) p' (by omega) fun i h1 h2 => h i (by omega) h2) (by omega)
theorem sweepL {q : Q} (hq : q ≠ .home) {S D : Int → Nat} : ∀ (n : Nat) (p p' : Int), p' = p - n → (∀ i, i ≤ p → p' < i → dl q (S i) (D i) = some (S i, D i, -1, q)) → Run n ⟨q, p, S, D⟩ ⟨q, p', S, D⟩
  | 0, p, p', e, _ => by
    have : p' = p := by omega
    subst this
    exact .refl
  | n + 1, p, p', e, h => (one0 hq (h p (Int.le_refl _) (by omega)) rfl).trans (sweepL hq n (p + -1) p' (by omega) fun i h1 h2 => h i (by omega) h2) (by omega)
/-- to the right up to p', of a stretch of at most L cells -/
theorem goR {q : Q} {S D : Int → Nat} {p p' : Int} {L : Nat} (hq : q ≠ .home) (h1 : p ≤ p') (h2 : p' - p ≤ L) (h : ∀ i, p ≤ i → i < p' → dl q (S i) (D i) = some (S i, D i, 1, q)) : Run L ⟨q, p, S, D⟩ ⟨q, p', S, D⟩ :=
  (sweepR hq (p' - p).toNat p p' (by omega) h).mono (by omega)
theorem goL {q : Q} {S D : Int → Nat} {p p' : Int} {L : Nat} (hq : q ≠ .home) (h1 : p' ≤ p) (h2 : p - p' ≤ L) (h : ∀ i, i ≤ p → p' < i → dl q (S i) (D i) = some (S i, D i, -1, q)) : Run L ⟨q, p, S, D⟩ ⟨q, p', S, D⟩ :=
  (sweepL hq (p - p').toNat p p' (by omega) h).mono (by omega)
/-! ### the code of a machine -/
/-- a rule of the source: digit written, the sign of the move (9, 10, 11), next state -/
abbrev Ent := Option (Nat × Nat × Nat)
/-- an entry stands at p -/
def EntAt (B : Int → Nat) (p : Int) (z : Int) : Ent → Prop
  | none => B p = 13 ∧ p < z
  | some (w, s, f) => B p = 7 + w ∧ B (p + 1) = s ∧ (∀ i, p + 2 ≤ i → i < p + 2 + f → B i = 5) ∧ B (p + 2 + f) = 12 ∧ p + 2 + f < z
def Fine (n : Nat) : Ent → Prop
  | none => True
  | some (w, s, f) => w < 2 ∧ 9 ≤ s ∧ s ≤ 11 ∧ f < n
/-- the signs B hold the code from a to z, each row's mark at pos r being a ROW -/
structure Code (n : Nat) (e : Nat → Nat → Ent) (a z : Int) (pos com : Nat → Int) (B : Int → Nat) : Prop where
  az : a < z
  op : B a = 1
  cl : B z = 2
  outl : ∀ i, i < a → B i = 0
  outr : ∀ i, z < i → B i = 0
  inn : ∀ i, a < i → i < z → 3 ≤ B i ∧ B i ≤ 13 ∧ B i ≠ 4 ∧ B i ≠ 6
  row : ∀ r, r < n → a < pos r ∧ pos r < com r ∧ com r < z ∧ B (pos r) = 3 ∧ B (com r) = 12
  first : pos 0 = a + 1
  rows : ∀ r, r + 1 < n → pos r < pos (r + 1) ∧ ∀ i, pos r < i → i < pos (r + 1) → B i ≠ 3
  comma : ∀ r, r < n → ∀ i, pos r < i → i < com r → B i ≠ 12
  ent0 : ∀ r, r < n → EntAt B (pos r + 1) z (e r 0)
  ent1 : ∀ r, r < n → EntAt B (com r + 1) z (e r 1)
  fine : ∀ r b, r < n → b < 2 → Fine n (e r b)
section
variable {n : Nat} {e : Nat → Nat → Ent} {a z : Int} {pos com : Nat → Int} {B D : Int → Nat} {L : Nat}
/-- where the entry for a digit begins -/
def at_ (pos com : Nat → Int) (r b : Nat) : Int := if b = 0 then pos r + 1 else com r + 1
theorem Code.ent (C : Code n e a z pos com B) {r b : Nat} (hr : r < n) (hb : b < 2) : EntAt B (at_ pos com r b) z (e r b) := by
  unfold at_
  by_cases h : b = 0
  · rw [if_pos h, h]; exact C.ent0 r hr
  · rw [if_neg h, show b = 1 by omega]; exact C.ent1 r hr
theorem Code.at_lo (C : Code n e a z pos com B) {r b : Nat} (hr : r < n) : pos r < at_ pos com r b := by
  have := C.row r hr
  unfold at_
  split <;> omega
/-- reading: from home to the entry, standing on its first sign -/
theorem reach (C : Code n e a z pos com B) {r b : Nat} (hr : r < n) (hb : b < 2) (hL : z - a ≤ L) :
    Run (3 * L + 3) ⟨.find b, a + 1, up B (pos r) 4, D⟩ ⟨if b = 0 then .entry 0 else .second, at_ pos com r b, up B (pos r) 4, D⟩ := by
  have R := C.row r hr
  have r1 : Run L ⟨.find b, a + 1, up B (pos r) 4, D⟩ ⟨.find b, pos r, up B (pos r) 4, D⟩ := goR (by intro h; cases h) (by omega) (by omega) fun i h1 h2 => by
    have h3 := C.inn i (by omega) (by omega)
    rw [up_ne (by omega)]
    show sk 4 1 _ _ _ _ = _
    unfold sk
    rw [if_neg h3.2.2.1]
  have r2 : Run 1 ⟨.find b, pos r, up B (pos r) 4, D⟩ ⟨.entry b, pos r + 1, up B (pos r) 4, D⟩ := one0 (by intro h; cases h) (by
    rw [up_same]
    rfl) rfl
  have r3 := r1.trans r2 (Nat.le_refl _)
  by_cases h : b = 0
  · subst h
    rw [if_pos rfl]
    unfold at_
    rw [if_pos rfl]
    exact r3.mono (by omega)
  · have h1 : b = 1 := by omega
    subst h1
    rw [if_neg h]
    unfold at_
    rw [if_neg h]
    have r4 : Run L ⟨.entry 1, pos r + 1, up B (pos r) 4, D⟩ ⟨.entry 1, com r, up B (pos r) 4, D⟩ := goR (by decide) (by omega) (by omega) fun i h1 h2 => by
      rw [up_ne (by omega)]
      show sk 12 1 _ _ _ _ = _
      unfold sk
      rw [if_neg (C.comma r hr i (by omega) h2)]
    have r5 : Run 1 ⟨.entry 1, com r, up B (pos r) 4, D⟩ ⟨.second, com r + 1, up B (pos r) 4, D⟩ := one0 (by decide) (by
      rw [up_ne (by omega), R.2.2.2.2]
      rfl) rfl
    exact ((r3.trans r4 (Nat.le_refl _)).trans r5 (Nat.le_refl _)).mono (by omega)
theorem halts {q : Q} {p : Int} {S D : Int → Nat} (h : dl q (S p) (D p) = none) : stepT ⟨q, p, S, D⟩ = none := by
  unfold stepT
  dsimp only
  rw [h]
/-- no rule: it ends at the entry, the tape as it was -/
theorem sim_none (C : Code n e a z pos com B) {r b : Nat} (hr : r < n) (hb : b < 2) (hL : z - a ≤ L) (he : e r b = none) :
    ∃ c, c.q ≠ .home ∧ stepT c = none ∧ c.S = up B (pos r) 4 ∧ c.D = D ∧ Run (3 * L + 3) ⟨.find b, a + 1, up B (pos r) 4, D⟩ c := by
  refine ⟨_, ?_, ?_, rfl, rfl, reach C hr hb hL⟩
  · dsimp only
    split <;> (intro h; cases h)
  · have E := C.ent hr hb
    rw [he] at E
    have lo := C.at_lo (b := b) hr
    have s13 : up B (pos r) 4 (at_ pos com r b) = 13 := by rw [up_ne (by omega)]; exact E.1
    by_cases h : b = 0
    · rw [if_pos h]
      exact halts (by rw [s13]; rfl)
    · rw [if_neg h]
      exact halts (by rw [s13]; rfl)
/-- the entry is read and the digit written; the head stands behind OPEN -/
theorem wrote (C : Code n e a z pos com B) {r b w s f : Nat} (hr : r < n) (hb : b < 2) (hL : z - a ≤ L) (he : e r b = some (w, s, f)) :
    Run (4 * L + 6) ⟨.find b, a + 1, up B (pos r) 4, D⟩ ⟨.again s b, a + 1, up B (pos r) 4, up D a w⟩ := by
  have E := C.ent hr hb
  have F := C.fine r b hr hb
  have R := C.row r hr
  have lo := C.at_lo (b := b) hr
  rw [he] at E F
  obtain ⟨E1, E2, E3, E4, E5⟩ := E
  obtain ⟨F1, F2, F3, F4⟩ := F
  have az := C.az
  have s1 : up B (pos r) 4 (at_ pos com r b) = 7 + w := by rw [up_ne (by omega)]; exact E1
  have s2 : up B (pos r) 4 (at_ pos com r b + 1) = s := by rw [up_ne (by omega)]; exact E2
  have r1 : Run 1 ⟨if b = 0 then .entry 0 else .second, at_ pos com r b, up B (pos r) 4, D⟩ ⟨.move w b, at_ pos com r b + 1, up B (pos r) 4, D⟩ := by
    by_cases h : b = 0
    · rw [if_pos h]
      refine one0 (by intro h; cases h) ?_ rfl
      rw [s1, h]
      show (if 7 + w = 7 ∨ 7 + w = 8 then some (7 + w, _, (1 : Int), Q.move (7 + w - 7) 0) else none) = _
      rw [if_pos (by omega), show 7 + w - 7 = w by omega]
    · rw [if_neg h]
      refine one0 (by intro h; cases h) ?_ rfl
      rw [s1, show b = 1 by omega]
      show (if 7 + w = 7 ∨ 7 + w = 8 then some (7 + w, _, (1 : Int), Q.move (7 + w - 7) 1) else none) = _
      rw [if_pos (by omega), show 7 + w - 7 = w by omega]
  have r2 : Run 1 ⟨.move w b, at_ pos com r b + 1, up B (pos r) 4, D⟩ ⟨.write w s b, at_ pos com r b, up B (pos r) 4, D⟩ := by
    refine one0 (m := -1) (by intro h; cases h) ?_ (by omega)
    rw [s2]
    show (if s = 9 ∨ s = 10 ∨ s = 11 then some (s, _, (-1 : Int), Q.write w s b) else none) = _
    rw [if_pos (by omega)]
  have r3 : Run L ⟨.write w s b, at_ pos com r b, up B (pos r) 4, D⟩ ⟨.write w s b, a, up B (pos r) 4, D⟩ := goL (by intro h; cases h) (by omega) (by omega) fun i h1 h2 => by
    have h3 : 2 ≤ up B (pos r) 4 i ∧ up B (pos r) 4 i ≠ 1 := by
      by_cases h : i = pos r
      · rw [h, up_same]; decide
      · rw [up_ne h]
        have := C.inn i (by omega) (by omega)
        omega
    show (if up B (pos r) 4 i = 1 then _ else if 2 ≤ up B (pos r) 4 i then _ else _) = _
    rw [if_neg h3.2, if_pos h3.1]
  have r4 : Run 1 ⟨.write w s b, a, up B (pos r) 4, D⟩ ⟨.again s b, a + 1, up B (pos r) 4, up D a w⟩ := by
    have sa : up B (pos r) 4 a = 1 := by rw [up_ne (by omega)]; exact C.op
    refine one (w := 1) (e := w) (m := 1) (by intro h; cases h) ?_ rfl ?_ rfl
    · rw [sa]; rfl
    · rw [← sa, up_self]
  exact ((((reach C hr hb hL).trans r1 (Nat.le_refl _)).trans r2 (Nat.le_refl _)).trans r3 (Nat.le_refl _)).trans r4 (by omega)
/-- the marks of the new state, from x on; the active row is j -/
def marked (B : Int → Nat) (pj u v : Int) : Int → Nat := fun i => if i = pj then 4 else if u ≤ i ∧ i < v then 6 else B i
theorem marked_pj {pj u v : Int} : marked B pj u v pj = 4 := by unfold marked; rw [if_pos rfl]
theorem marked_in {pj u v i : Int} (h : i ≠ pj) (h1 : u ≤ i) (h2 : i < v) : marked B pj u v i = 6 := by unfold marked; rw [if_neg h, if_pos ⟨h1, h2⟩]
theorem marked_out {pj u v i : Int} (h : i ≠ pj) (h1 : ¬ (u ≤ i ∧ i < v)) : marked B pj u v i = B i := by unfold marked; rw [if_neg h, if_neg h1]
theorem marked_ne {pj u v i : Int} (h : i ≠ pj) {k : Nat} (hk : k ≠ 6) (hB : B i ≠ k) : marked B pj u v i ≠ k := by
  unfold marked
  rw [if_neg h]
  split
  · exact fun h => hk h.symm
  · exact hB
theorem marked_nil {pj u : Int} : marked B pj u u = up B pj 4 := by
  funext i
  unfold marked up
  split
  · rfl
  · rw [if_neg (by omega)]
/-- from behind the writing to the marks: the first row is active, the units of the entry are marked -/
theorem choose_ (C : Code n e a z pos com B) {r b w s f : Nat} (hr : r < n) (hb : b < 2) (hL : z - a ≤ L) (he : e r b = some (w, s, f)) :
    Run (7 * L + 20) ⟨.again s b, a + 1, up B (pos r) 4, D⟩ ⟨.seek s, a + 2, marked B (pos 0) (at_ pos com r b + 2) (at_ pos com r b + 2 + f), D⟩ := by
  have E := C.ent hr hb
  have F := C.fine r b hr hb
  have R := C.row r hr
  have lo := C.at_lo (b := b) hr
  have p0 := C.first
  rw [he] at E F
  obtain ⟨E1, E2, E3, E4, E5⟩ := E
  obtain ⟨F1, F2, F3, F4⟩ := F
  have az := C.az
  have s1 : up B (pos r) 4 (at_ pos com r b) = 7 + w := by rw [up_ne (by omega)]; exact E1
  have s2 : up B (pos r) 4 (at_ pos com r b + 1) = s := by rw [up_ne (by omega)]; exact E2
  -- again: to behind ACTIVE
  have r1 : Run L ⟨.again s b, a + 1, up B (pos r) 4, D⟩ ⟨.again s b, pos r, up B (pos r) 4, D⟩ := goR (by intro h; cases h) (by omega) (by omega) fun i h1 h2 => by
    have h3 := C.inn i (by omega) (by omega)
    rw [up_ne (by omega)]
    show sk 4 1 _ _ _ _ = _
    unfold sk
    rw [if_neg h3.2.2.1]
  have r2 : Run 1 ⟨.again s b, pos r, up B (pos r) 4, D⟩ ⟨.skip s b, pos r + 1, up B (pos r) 4, D⟩ := one0 (by intro h; cases h) (by
    rw [up_same]
    rfl) rfl
  -- skip: to the entry
  have r3 : Run (L + 1) ⟨.skip s b, pos r + 1, up B (pos r) 4, D⟩ ⟨.skip s 0, at_ pos com r b, up B (pos r) 4, D⟩ := by
    by_cases h : b = 0
    · subst h
      unfold at_
      rw [if_pos rfl]
      exact .refl
    · have h1 : b = 1 := by omega
      subst h1
      unfold at_
      rw [if_neg h]
      have r4 : Run L ⟨.skip s 1, pos r + 1, up B (pos r) 4, D⟩ ⟨.skip s 1, com r, up B (pos r) 4, D⟩ := goR (by intro h; cases h) (by omega) (by omega) fun i h1 h2 => by
        rw [up_ne (by omega)]
        show sk 12 1 _ _ _ _ = _
        unfold sk
        rw [if_neg (C.comma r hr i (by omega) h2)]
      have r5 : Run 1 ⟨.skip s 1, com r, up B (pos r) 4, D⟩ ⟨.skip s 0, com r + 1, up B (pos r) 4, D⟩ := one0 (by intro h; cases h) (by
        rw [up_ne (by omega), R.2.2.2.2]
        rfl) rfl
      exact r4.trans r5 (Nat.le_refl _)
  have r4 : Run 1 ⟨.skip s 0, at_ pos com r b, up B (pos r) 4, D⟩ ⟨.over s, at_ pos com r b + 1, up B (pos r) 4, D⟩ := one0 (by intro h; cases h) (by
    rw [s1]
    show (if 7 + w = 7 ∨ 7 + w = 8 then some (7 + w, _, (1 : Int), Q.over s) else none) = _
    rw [if_pos (by omega)]) rfl
  have r5 : Run 1 ⟨.over s, at_ pos com r b + 1, up B (pos r) 4, D⟩ ⟨.units s, at_ pos com r b + 2, up B (pos r) 4, D⟩ := one0 (m := 1) (by intro h; cases h) (by
    rw [s2]
    show (if s = 9 ∨ s = 10 ∨ s = 11 then some (s, _, (1 : Int), Q.units s) else none) = _
    rw [if_pos (by omega)]) (by omega)
  -- units: marked one by one
  have r6 : ∀ k, k ≤ f → Run k ⟨.units s, at_ pos com r b + 2, up B (pos r) 4, D⟩ ⟨.units s, at_ pos com r b + 2 + k, marked B (pos r) (at_ pos com r b + 2) (at_ pos com r b + 2 + k), D⟩ := by
    intro k
    induction k with
    | zero =>
      intro _
      rw [show at_ pos com r b + 2 + ((0 : Nat) : Int) = at_ pos com r b + 2 by omega, marked_nil]
      exact .refl
    | succ k ih =>
      intro hk
      refine (ih (by omega)).trans (m := 1) ?_ (Nat.le_refl _)
      refine one1 (w := 6) (m := 1) (by intro h; cases h) ?_ (by omega) ?_
      · rw [marked_out (by omega) (by omega), E3 _ (by omega) (by omega)]
        rfl
      · funext i
        unfold up
        by_cases h : i = at_ pos com r b + 2 + (k : Int)
        · rw [if_pos h, h, marked_in (by omega) (by omega) (by omega)]
        · rw [if_neg h]
          by_cases h2 : i = pos r
          · rw [h2, marked_pj, marked_pj]
          · by_cases h3 : at_ pos com r b + 2 ≤ i ∧ i < at_ pos com r b + 2 + (k : Int)
            · rw [marked_in h2 h3.1 h3.2, marked_in h2 h3.1 (by omega)]
            · rw [marked_out h2 h3, marked_out h2 (by omega)]
  have r6' := r6 f (Nat.le_refl _)
  have r7 : Run 1 ⟨.units s, at_ pos com r b + 2 + f, marked B (pos r) (at_ pos com r b + 2) (at_ pos com r b + 2 + f), D⟩ ⟨.unmark s, at_ pos com r b + 1 + f, marked B (pos r) (at_ pos com r b + 2) (at_ pos com r b + 2 + f), D⟩ := by
    have h1 : marked B (pos r) (at_ pos com r b + 2) (at_ pos com r b + 2 + f) (at_ pos com r b + 2 + f) = 12 := by
      rw [marked_out (by omega) (by omega)]; exact E4
    refine one0 (m := -1) (by intro h; cases h) ?_ (by omega)
    rw [h1]
    rfl
  have r8 : Run L ⟨.unmark s, at_ pos com r b + 1 + f, marked B (pos r) (at_ pos com r b + 2) (at_ pos com r b + 2 + f), D⟩ ⟨.unmark s, pos r, marked B (pos r) (at_ pos com r b + 2) (at_ pos com r b + 2 + f), D⟩ :=
    goL (by intro h; cases h) (by omega) (by omega) fun i h1 h2 => by
      have h3 := C.inn i (by omega) (by omega)
      show (if marked B (pos r) (at_ pos com r b + 2) (at_ pos com r b + 2 + f) i = 4 then _ else _) = _
      rw [if_neg (marked_ne (by omega) (by decide) h3.2.2.1)]
  -- the active row becomes a ROW
  have r9 : Run 1 ⟨.unmark s, pos r, marked B (pos r) (at_ pos com r b + 2) (at_ pos com r b + 2 + f), D⟩ ⟨.left s, pos r - 1, up (marked B (pos r) (at_ pos com r b + 2) (at_ pos com r b + 2 + f)) (pos r) 3, D⟩ := by
    refine one1 (w := 3) (m := -1) (by intro h; cases h) ?_ (by omega) rfl
    rw [marked_pj]
    rfl
  have off : ∀ i, i < at_ pos com r b + 2 → up (marked B (pos r) (at_ pos com r b + 2) (at_ pos com r b + 2 + f)) (pos r) 3 i = B i := fun i hi => by
    by_cases h : i = pos r
    · rw [h, up_same]; exact R.2.2.2.1.symm
    · rw [up_ne h, marked_out h (by omega)]
  have r10 : Run L ⟨.left s, pos r - 1, up (marked B (pos r) (at_ pos com r b + 2) (at_ pos com r b + 2 + f)) (pos r) 3, D⟩ ⟨.left s, a, up (marked B (pos r) (at_ pos com r b + 2) (at_ pos com r b + 2 + f)) (pos r) 3, D⟩ :=
    goL (by intro h; cases h) (by omega) (by omega) fun i h1 h2 => by
      have h3 := C.inn i (by omega) (by omega)
      rw [off i (by omega)]
      show sk 1 (-1) _ _ _ _ = _
      unfold sk
      rw [if_neg (by omega)]
  have r11 : Run 1 ⟨.left s, a, up (marked B (pos r) (at_ pos com r b + 2) (at_ pos com r b + 2 + f)) (pos r) 3, D⟩ ⟨.first s, a + 1, up (marked B (pos r) (at_ pos com r b + 2) (at_ pos com r b + 2 + f)) (pos r) 3, D⟩ := by
    refine one0 (m := 1) (by intro h; cases h) ?_ rfl
    rw [off a (by omega), C.op]
    rfl
  have r12 : Run 1 ⟨.first s, a + 1, up (marked B (pos r) (at_ pos com r b + 2) (at_ pos com r b + 2 + f)) (pos r) 3, D⟩ ⟨.seek s, a + 2, marked B (pos 0) (at_ pos com r b + 2) (at_ pos com r b + 2 + f), D⟩ := by
    have R0 := C.row 0 (by omega)
    refine one1 (w := 4) (m := 1) (by intro h; cases h) ?_ (by omega) ?_
    · rw [off (a + 1) (by omega), ← p0, R0.2.2.2.1]
      rfl
    · funext i
      rw [p0]
      by_cases h : i = a + 1
      · rw [h, up_same, marked_pj]
      · rw [up_ne h]
        by_cases h2 : i = pos r
        · rw [h2, up_same, marked_out (by omega) (by omega)]; exact R.2.2.2.1
        · rw [up_ne h2]
          by_cases h3 : at_ pos com r b + 2 ≤ i ∧ i < at_ pos com r b + 2 + (f : Int)
          · rw [marked_in h h3.1 h3.2, marked_in h2 h3.1 h3.2]
          · rw [marked_out h h3, marked_out h2 h3]
  have fL : f ≤ L := by omega
  have t1 := ((r1.trans r2 (Nat.le_refl _)).trans r3 (Nat.le_refl _)).trans r4 (Nat.le_refl _)
  have t2 := (t1.trans r5 (Nat.le_refl _)).trans r6' (Nat.le_refl _)
  have t3 := ((t2.trans r7 (Nat.le_refl _)).trans r8 (Nat.le_refl _)).trans r9 (Nat.le_refl _)
  exact ((t3.trans r10 (Nat.le_refl _)).trans r11 (Nat.le_refl _)).trans r12 (by omega)
/-- one mark less, the active row one further -/
theorem mark_step (C : Code n e a z pos com B) {u v p : Int} {s j : Nat} (hj : j + 1 < n) (hL : z - a ≤ L) (hu : a + 1 < u) (hv : v < z) (hun : ∀ i, u ≤ i → i < v → B i = 5) (hp : a < p) (hpu : p ≤ u) (huv : u < v) :
    Run (5 * L + 6) ⟨.seek s, p, marked B (pos j) u v, D⟩ ⟨.seek s, a + 1, marked B (pos (j + 1)) (u + 1) v, D⟩ := by
  have R := C.row j (by omega)
  have R' := C.row (j + 1) hj
  have N := C.rows j hj
  have az := C.az
  have hpj : ¬ (u ≤ pos j ∧ pos j < v) := fun h => by
    have := hun _ h.1 h.2
    omega
  have hpj' : ¬ (u ≤ pos (j + 1) ∧ pos (j + 1) < v) := fun h => by
    have := hun _ h.1 h.2
    omega
  have r1 : Run L ⟨.seek s, p, marked B (pos j) u v, D⟩ ⟨.seek s, u, marked B (pos j) u v, D⟩ := goR (by intro h; cases h) (by omega) (by omega) fun i h1 h2 => by
    have h3 := C.inn i (by omega) (by omega)
    have h4 : marked B (pos j) u v i ≠ 6 ∧ marked B (pos j) u v i ≠ 2 := by
      by_cases h : i = pos j
      · rw [h, marked_pj]; decide
      · rw [marked_out h (by omega)]; omega
    show (if _ = 6 then _ else if _ = 2 then _ else _) = _
    rw [if_neg h4.1, if_neg h4.2]
  have r2 : Run 1 ⟨.seek s, u, marked B (pos j) u v, D⟩ ⟨.rewind s, u - 1, marked B (pos j) (u + 1) v, D⟩ := by
    refine one1 (w := 5) (m := -1) (by intro h; cases h) ?_ (by omega) ?_
    · rw [marked_in (by omega) (by omega) (by omega)]
      rfl
    · funext i
      unfold up
      by_cases h : i = u
      · rw [if_pos h, h, marked_out (by omega) (by omega)]
        exact hun u (by omega) (by omega)
      · rw [if_neg h]
        by_cases h2 : i = pos j
        · rw [h2, marked_pj, marked_pj]
        · by_cases h3 : u ≤ i ∧ i < v
          · rw [marked_in h2 h3.1 h3.2, marked_in h2 (by omega) h3.2]
          · rw [marked_out h2 h3, marked_out h2 (by omega)]
  have n1 : ∀ i, a < i → i < z → marked B (pos j) (u + 1) v i ≠ 1 := fun i h1 h2 => by
    by_cases h : i = pos j
    · rw [h, marked_pj]; decide
    · have := C.inn i h1 h2
      exact marked_ne h (by decide) (by omega)
  have ma : marked B (pos j) (u + 1) v a = 1 := by rw [marked_out (by omega) (by omega)]; exact C.op
  have r3 : Run L ⟨.rewind s, u - 1, marked B (pos j) (u + 1) v, D⟩ ⟨.rewind s, a, marked B (pos j) (u + 1) v, D⟩ := goL (by intro h; cases h) (by omega) (by omega) fun i h1 h2 => by
    show sk 1 (-1) _ _ _ _ = _
    unfold sk
    rw [if_neg (n1 i h2 (by omega))]
  have r4 : Run 1 ⟨.rewind s, a, marked B (pos j) (u + 1) v, D⟩ ⟨.active s, a + 1, marked B (pos j) (u + 1) v, D⟩ := one0 (m := 1) (by intro h; cases h) (by rw [ma]; rfl) rfl
  have r5 : Run L ⟨.active s, a + 1, marked B (pos j) (u + 1) v, D⟩ ⟨.active s, pos j, marked B (pos j) (u + 1) v, D⟩ := goR (by intro h; cases h) (by omega) (by omega) fun i h1 h2 => by
    have h3 := C.inn i (by omega) (by omega)
    show (if _ = 4 then _ else _) = _
    rw [if_neg (marked_ne (by omega) (by decide) h3.2.2.1)]
  have r6 : Run 1 ⟨.active s, pos j, marked B (pos j) (u + 1) v, D⟩ ⟨.next s, pos j + 1, up (marked B (pos j) (u + 1) v) (pos j) 3, D⟩ := one1 (w := 3) (m := 1) (by intro h; cases h) (by rw [marked_pj]; rfl) rfl rfl
  have r7 : Run L ⟨.next s, pos j + 1, up (marked B (pos j) (u + 1) v) (pos j) 3, D⟩ ⟨.next s, pos (j + 1), up (marked B (pos j) (u + 1) v) (pos j) 3, D⟩ := goR (by intro h; cases h) (by omega) (by omega) fun i h1 h2 => by
    rw [up_ne (by omega)]
    show (if _ = 3 then _ else _) = _
    rw [if_neg (marked_ne (by omega) (by decide) (N.2 i (by omega) h2))]
  have r8 : Run 1 ⟨.next s, pos (j + 1), up (marked B (pos j) (u + 1) v) (pos j) 3, D⟩ ⟨.restart s, pos (j + 1) - 1, marked B (pos (j + 1)) (u + 1) v, D⟩ := by
    refine one1 (w := 4) (m := -1) (by intro h; cases h) ?_ (by omega) ?_
    · rw [up_ne (by omega), marked_out (by omega) (by omega), R'.2.2.2.1]
      rfl
    · funext i
      by_cases h : i = pos (j + 1)
      · rw [h, up_same, marked_pj]
      · rw [up_ne h]
        by_cases h2 : i = pos j
        · rw [h2, up_same, marked_out (by omega) (by omega)]; exact R.2.2.2.1
        · rw [up_ne h2]
          by_cases h3 : u + 1 ≤ i ∧ i < v
          · rw [marked_in h h3.1 h3.2, marked_in h2 h3.1 h3.2]
          · rw [marked_out h h3, marked_out h2 h3]
  have r9 : Run L ⟨.restart s, pos (j + 1) - 1, marked B (pos (j + 1)) (u + 1) v, D⟩ ⟨.restart s, a, marked B (pos (j + 1)) (u + 1) v, D⟩ := goL (by intro h; cases h) (by omega) (by omega) fun i h1 h2 => by
    have := C.inn i h2 (by omega)
    show sk 1 (-1) _ _ _ _ = _
    unfold sk
    rw [if_neg (marked_ne (by omega) (by decide) (by omega))]
  have r10 : Run 1 ⟨.restart s, a, marked B (pos (j + 1)) (u + 1) v, D⟩ ⟨.seek s, a + 1, marked B (pos (j + 1)) (u + 1) v, D⟩ := one0 (m := 1) (by intro h; cases h) (by
    rw [marked_out (by omega) (by omega), C.op]
    rfl) rfl
  have t1 := ((r1.trans r2 (Nat.le_refl _)).trans r3 (Nat.le_refl _)).trans r4 (Nat.le_refl _)
  have t2 := ((t1.trans r5 (Nat.le_refl _)).trans r6 (Nat.le_refl _)).trans r7 (Nat.le_refl _)
  exact ((t2.trans r8 (Nat.le_refl _)).trans r9 (Nat.le_refl _)).trans r10 (by omega)
/-- all marks -/
theorem mark_all (C : Code n e a z pos com B) {u : Int} {s f : Nat} (hf : f < n) (hL : z - a ≤ L) (hu : a + 1 < u) (hv : u + f < z) (hun : ∀ i, u ≤ i → i < u + f → B i = 5) :
    ∀ k, k ≤ f → ∃ p, a < p ∧ p ≤ u + k ∧ Run (k * (5 * L + 6)) ⟨.seek s, a + 2, marked B (pos 0) u (u + f), D⟩ ⟨.seek s, p, marked B (pos k) (u + k) (u + f), D⟩
  | 0, _ => ⟨a + 2, by omega, by omega, by
    rw [show u + ((0 : Nat) : Int) = u by omega]
    exact .refl⟩
  | k + 1, h => by
    obtain ⟨p, h1, h2, r⟩ := mark_all C hf hL hu hv hun k (by omega)
    refine ⟨a + 1, by omega, by omega, r.trans (m := 5 * L + 6) ?_ ?_⟩
    · rw [show u + ((k + 1 : Nat) : Int) = u + k + 1 by omega]
      exact mark_step C (by omega) hL (by omega) hv (fun i h3 h4 => hun i (by omega) h4) h1 h2 (by omega)
    · exact Nat.le_of_eq (Nat.succ_mul k _).symm
/-- the whole code moves by one cell to the right -/
theorem shiftR {S : Int → Nat} (h1 : S a = 1) (h3 : 1 ≤ S z) (h2 : ∀ i, a ≤ i → i < z → 1 ≤ S i ∧ S i ≠ 2) : ∀ (k : Nat), a + k ≤ z →
    Run k ⟨.right 1, a + 1, up S a 0, D⟩ ⟨.right (S (a + k)), a + 1 + k, fun i => if i = a then 0 else if a < i ∧ i ≤ a + k then S (i - 1) else S i, D⟩
  | 0, _ => by
    have e1 : a + ((0 : Nat) : Int) = a := by omega
    have e2 : a + 1 + ((0 : Nat) : Int) = a + 1 := by omega
    rw [e1, e2, h1]
    have e3 : (fun i => if i = a then 0 else if a < i ∧ i ≤ a then S (i - 1) else S i) = up S a 0 := by
      funext i
      unfold up
      split
      · rfl
      · rw [if_neg (by omega)]
    rw [e3]
    exact .refl
  | k + 1, h => by
    refine (shiftR h1 h3 h2 k (by omega)).trans (m := 1) ?_ (Nat.le_refl _)
    have hk := h2 (a + k) (by omega) (by omega)
    have hn : max 1 (S (a + 1 + k)) = S (a + ((k + 1 : Nat) : Int)) := by
      rw [show a + ((k + 1 : Nat) : Int) = a + 1 + k by omega]
      have : 1 ≤ S (a + 1 + k) := by
        by_cases hz : a + 1 + (k : Int) = z
        · rw [hz]; exact h3
        · exact (h2 (a + 1 + k) (by omega) (by omega)).1
      omega
    refine one1 (w := S (a + k)) (m := 1) (by intro h; cases h) ?_ (by omega) ?_
    · show (if S (a + k) = 2 then _ else some (S (a + k), _, (1 : Int), Q.right (max 1 _))) = _
      rw [if_neg hk.2, if_neg (by omega), if_neg (by omega), hn]
    · funext i
      unfold up
      by_cases q : i = a + 1 + k
      · rw [if_pos q, if_neg (by omega), if_pos (by omega), q]
        congr 1
        omega
      · rw [if_neg q]
        dsimp only
        by_cases q2 : i = a
        · rw [if_pos q2, if_pos q2]
        · rw [if_neg q2, if_neg q2]
          by_cases q3 : a < i ∧ i ≤ a + k
          · rw [if_pos q3, if_pos (by omega)]
          · rw [if_neg q3, if_neg (by omega)]
/-- .. to the left -/
theorem shiftL {S : Int → Nat} (h1 : S z = 2) (h2 : ∀ i, a < i → i ≤ z → S i ≠ 1 ∧ 1 ≤ S i) (h3 : 1 ≤ S a) : ∀ (k : Nat), a + k ≤ z →
    Run k ⟨.carry 2, z - 1, up S z 0, D⟩ ⟨.carry (S (z - k)), z - 1 - k, fun i => if i = z then 0 else if z - k ≤ i ∧ i < z then S (i + 1) else S i, D⟩
  | 0, _ => by
    have e1 : z - ((0 : Nat) : Int) = z := by omega
    have e2 : z - 1 - ((0 : Nat) : Int) = z - 1 := by omega
    rw [e1, e2, h1]
    have e3 : (fun i => if i = z then 0 else if z ≤ i ∧ i < z then S (i + 1) else S i) = up S z 0 := by
      funext i
      unfold up
      split
      · rfl
      · rw [if_neg (by omega)]
    rw [e3]
    exact .refl
  | k + 1, h => by
    refine (shiftL h1 h2 h3 k (by omega)).trans (m := 1) ?_ (Nat.le_refl _)
    have hk := h2 (z - k) (by omega) (by omega)
    have hn : max 1 (S (z - 1 - k)) = S (z - ((k + 1 : Nat) : Int)) := by
      rw [show z - ((k + 1 : Nat) : Int) = z - 1 - k by omega]
      have : 1 ≤ S (z - 1 - k) := by
        by_cases hz : z - 1 - (k : Int) = a
        · rw [hz]; exact h3
        · exact (h2 (z - 1 - k) (by omega) (by omega)).2
      omega
    refine one1 (w := S (z - k)) (m := -1) (by intro h; cases h) ?_ (by omega) ?_
    · show (if S (z - k) = 1 then _ else some (S (z - k), _, (-1 : Int), Q.carry (max 1 _))) = _
      rw [if_neg hk.1, if_neg (by omega), if_neg (by omega), hn]
    · funext i
      unfold up
      by_cases q : i = z - 1 - k
      · rw [if_pos q, if_neg (by omega), if_pos (by omega), q]
        congr 1
        omega
      · rw [if_neg q]
        dsimp only
        by_cases q2 : i = z
        · rw [if_pos q2, if_pos q2]
        · rw [if_neg q2, if_neg q2]
          by_cases q3 : z - k ≤ i ∧ i < z
          · rw [if_pos q3, if_pos (by omega)]
          · rw [if_neg q3, if_neg (by omega)]
/-- the last part: home at the moved code -/
theorem go_home (C : Code n e a z pos com B) {f s : Nat} {p : Int} (hf : f < n) (hs : 9 ≤ s ∧ s ≤ 11) (hL : z - a ≤ L) (hp : a < p) (hpz : p ≤ z) :
    Run (4 * L + 4) ⟨.seek s, p, up B (pos f) 4, D⟩ ⟨.home, a + ((s : Int) - 10), fun i => up B (pos f) 4 (i - ((s : Int) - 10)), D⟩ := by
  have R := C.row f hf
  have az := C.az
  have inn : ∀ i, a < i → i < z → 3 ≤ up B (pos f) 4 i ∧ up B (pos f) 4 i ≠ 6 := fun i h1 h2 => by
    by_cases h : i = pos f
    · rw [h, up_same]; decide
    · rw [up_ne h]
      have := C.inn i h1 h2
      omega
  have sa : up B (pos f) 4 a = 1 := by rw [up_ne (by omega)]; exact C.op
  have sz : up B (pos f) 4 z = 2 := by rw [up_ne (by omega)]; exact C.cl
  have so : ∀ i, i < a ∨ z < i → up B (pos f) 4 i = 0 := fun i h => by
    rw [up_ne (by omega)]
    rcases h with h | h
    · exact C.outl i h
    · exact C.outr i h
  generalize hS : up B (pos f) 4 = S at *
  have r1 : Run L ⟨.seek s, p, S, D⟩ ⟨.seek s, z, S, D⟩ := goR (by intro h; cases h) (by omega) (by omega) fun i h1 h2 => by
    have h3 := inn i (by omega) (by omega)
    show (if _ = 6 then _ else if _ = 2 then _ else _) = _
    rw [if_neg h3.2, if_neg (by omega)]
  rcases (by omega : s = 9 ∨ s = 10 ∨ s = 11) with rfl | rfl | rfl
  · -- to the left
    have r2 : Run 1 ⟨.seek 9, z, S, D⟩ ⟨.carry 2, z - 1, up S z 0, D⟩ := one1 (w := 0) (m := -1) (by intro h; cases h) (by rw [sz]; rfl) (by omega) rfl
    have r3 := shiftL (D := D) (a := a) sz (fun i h1 h2 => by
      by_cases h : i = z
      · rw [h, sz]; decide
      · have := inn i h1 (by omega)
        omega) (by omega) (z - a).toNat (by omega)
    have r4 : Run 1 ⟨.carry (S (z - ((z - a).toNat : Int))), z - 1 - ((z - a).toNat : Int), fun i => if i = z then 0 else if z - ((z - a).toNat : Int) ≤ i ∧ i < z then S (i + 1) else S i, D⟩ ⟨.home, a + (((9 : Nat) : Int) - 10), fun i => S (i - (((9 : Nat) : Int) - 10)), D⟩ := by
      rw [show z - ((z - a).toNat : Int) = a by omega, sa]
      refine one1 (w := 1) (m := 0) (by intro h; cases h) rfl (by omega) ?_
      funext i
      unfold up
      by_cases q : i = z - 1 - ((z - a).toNat : Int)
      · rw [if_pos q, q, show z - 1 - ((z - a).toNat : Int) - (((9 : Nat) : Int) - 10) = a by omega, sa]
      · rw [if_neg q]
        try dsimp only
        by_cases q2 : i = z
        · rw [if_pos q2, so _ (by omega)]
        · rw [if_neg q2]
          by_cases q3 : a ≤ i ∧ i < z
          · rw [if_pos q3]
            congr 1
          · rw [if_neg q3, so _ (by omega), so _ (by omega)]
    exact ((r1.trans r2 (Nat.le_refl _)).trans r3 (Nat.le_refl _)).trans r4 (by omega)
  · -- it stays
    have r2 : Run 1 ⟨.seek 10, z, S, D⟩ ⟨.homeward, z - 1, S, D⟩ := one0 (m := -1) (by intro h; cases h) (by rw [sz]; rfl) (by omega)
    have r3 : Run L ⟨.homeward, z - 1, S, D⟩ ⟨.homeward, a, S, D⟩ := goL (by intro h; cases h) (by omega) (by omega) fun i h1 h2 => by
      have h3 := inn i (by omega) (by omega)
      show (if _ = 1 then _ else _) = _
      rw [if_neg (by omega)]
    have r4 : Run 1 ⟨.homeward, a, S, D⟩ ⟨.home, a + (((10 : Nat) : Int) - 10), fun i => S (i - (((10 : Nat) : Int) - 10)), D⟩ := by
      have e : (fun i => S (i - (((10 : Nat) : Int) - 10))) = S := by
        funext i
        congr 1
        omega
      rw [e]
      exact one0 (m := 0) (by intro h; cases h) (by rw [sa]; rfl) (by omega)
    exact ((r1.trans r2 (Nat.le_refl _)).trans r3 (Nat.le_refl _)).trans r4 (by omega)
  · -- to the right
    have r2 : Run 1 ⟨.seek 11, z, S, D⟩ ⟨.begin_, z - 1, S, D⟩ := one0 (m := -1) (by intro h; cases h) (by rw [sz]; rfl) (by omega)
    have r3 : Run L ⟨.begin_, z - 1, S, D⟩ ⟨.begin_, a, S, D⟩ := goL (by intro h; cases h) (by omega) (by omega) fun i h1 h2 => by
      have h3 := inn i (by omega) (by omega)
      show (if _ = 1 then _ else _) = _
      rw [if_neg (by omega)]
    have r4 : Run 1 ⟨.begin_, a, S, D⟩ ⟨.right 1, a + 1, up S a 0, D⟩ := one1 (w := 0) (m := 1) (by intro h; cases h) (by rw [sa]; rfl) rfl rfl
    have r5 := shiftR (D := D) (z := z) sa (by omega) (fun i h1 h2 => by
      by_cases h : i = a
      · rw [h, sa]; decide
      · have := inn i (by omega) h2
        omega) (z - a).toNat (by omega)
    have eS : up (fun i => if i = a then 0 else if a < i ∧ i ≤ a + ((z - a).toNat : Int) then S (i - 1) else S i) (a + 1 + ((z - a).toNat : Int)) 2 = fun i => S (i - (((11 : Nat) : Int) - 10)) := by
      funext i
      unfold up
      by_cases q : i = a + 1 + ((z - a).toNat : Int)
      · rw [if_pos q, q, show a + 1 + ((z - a).toNat : Int) - (((11 : Nat) : Int) - 10) = z by omega, sz]
      · rw [if_neg q]
        try dsimp only
        by_cases q2 : i = a
        · rw [if_pos q2, so _ (by omega)]
        · rw [if_neg q2]
          by_cases q3 : a < i ∧ i ≤ a + ((z - a).toNat : Int)
          · rw [if_pos q3]
            congr 1
          · rw [if_neg q3, so _ (by omega), so _ (by omega)]
    have r6 : Run 1 ⟨.right (S (a + ((z - a).toNat : Int))), a + 1 + ((z - a).toNat : Int), fun i => if i = a then 0 else if a < i ∧ i ≤ a + ((z - a).toNat : Int) then S (i - 1) else S i, D⟩ ⟨.homeward, z, fun i => S (i - (((11 : Nat) : Int) - 10)), D⟩ := by
      rw [show S (a + ((z - a).toNat : Int)) = 2 by rw [show a + ((z - a).toNat : Int) = z by omega, sz]]
      exact one1 (w := 2) (m := -1) (by intro h; cases h) rfl (by omega) eS.symm
    have r7 : Run L ⟨.homeward, z, fun i => S (i - (((11 : Nat) : Int) - 10)), D⟩ ⟨.homeward, a + 1, fun i => S (i - (((11 : Nat) : Int) - 10)), D⟩ := goL (by intro h; cases h) (by omega) (by omega) fun i h1 h2 => by
      have h3 := inn (i - (((11 : Nat) : Int) - 10)) (by omega) (by omega)
      show (if _ = 1 then _ else _) = _
      rw [if_neg (by omega)]
    have r8 : Run 1 ⟨.homeward, a + 1, fun i => S (i - (((11 : Nat) : Int) - 10)), D⟩ ⟨.home, a + (((11 : Nat) : Int) - 10), fun i => S (i - (((11 : Nat) : Int) - 10)), D⟩ := by
      refine one0 (m := 0) (by intro h; cases h) ?_ (by omega)
      rw [show a + 1 - (((11 : Nat) : Int) - 10) = a by omega, sa]
      rfl
    have t1 := ((r1.trans r2 (Nat.le_refl _)).trans r3 (Nat.le_refl _)).trans r4 (Nat.le_refl _)
    have t2 := ((t1.trans r5 (Nat.le_refl _)).trans r6 (Nat.le_refl _)).trans r7 (Nat.le_refl _)
    exact t2.trans r8 (by omega)
/-- a rule: from behind the first step to the picture of the next configuration -/
theorem sim_some (C : Code n e a z pos com B) {r b w s f : Nat} (hr : r < n) (hb : b < 2) (hL : z - a ≤ L) (he : e r b = some (w, s, f)) :
    Run (f * (5 * L + 6) + 15 * L + 30) ⟨.find b, a + 1, up B (pos r) 4, D⟩ ⟨.home, a + ((s : Int) - 10), fun i => up B (pos f) 4 (i - ((s : Int) - 10)), up D a w⟩ := by
  have E := C.ent hr hb
  have F := C.fine r b hr hb
  have R := C.row r hr
  have lo := C.at_lo (b := b) hr
  have hc := choose_ (D := up D a w) C hr hb hL he
  have hw := wrote (D := D) C hr hb hL he
  rw [he] at E F
  obtain ⟨E1, E2, E3, E4, E5⟩ := E
  obtain ⟨F1, F2, F3, F4⟩ := F
  obtain ⟨p, p1, p2, hm⟩ := mark_all (s := s) (D := up D a w) C F4 hL (u := at_ pos com r b + 2) (by omega) (by omega) E3 f (Nat.le_refl _)
  rw [marked_nil] at hm
  have hg := go_home (D := up D a w) C F4 ⟨F2, F3⟩ hL p1 (by omega)
  exact ((hw.trans hc (Nat.le_refl _)).trans hm (Nat.le_refl _)).trans hg (by omega)
end
end UM
/-! Zippers (configurations as the program has them) against tapes; the code of a machine as a list. -/
namespace UM
structure Cfg where
  st : Nat
  l : List Nat
  h : Nat
  r : List Nat
  deriving DecidableEq
/-- a machine: written, move, next state -/
abbrev Tab := Nat → Nat → Option (Nat × Int × Nat)
def push (w : Nat) (l : List Nat) : List Nat := if w = 0 ∧ l = [] then [] else w :: l
def strip : List Nat → List Nat
  | [] => []
  | a :: l => push a (strip l)
def stepC (M : Tab) (c : Cfg) : Option Cfg := match M c.st c.h with
  | none => none
  | some (w, m, q) => if m = 0 then some ⟨q, c.l, w, c.r⟩ else if m = 1 then some ⟨q, push w c.l, c.r.headD 0, c.r.tail⟩ else some ⟨q, c.l.tail, c.l.headD 0, push w c.r⟩
abbrev Can (l : List Nat) : Prop := strip l = l
abbrev g (l : List Nat) (i : Nat) : Nat := l.getD i 0
theorem g_nil (i : Nat) : g [] i = 0 := by simp [g]
theorem g_cons0 (a : Nat) (l : List Nat) : g (a :: l) 0 = a := rfl
theorem g_succ (a : Nat) (l : List Nat) (i : Nat) : g (a :: l) (i + 1) = g l i := by simp [g]
theorem g_push (w : Nat) (l : List Nat) (i : Nat) : g (push w l) i = g (w :: l) i := by
  unfold push
  split
  · rename_i h
    rw [h.1, h.2, g_nil]
    cases i with
    | zero => rfl
    | succ i => rw [g_succ, g_nil]
  · rfl
theorem g_strip : ∀ (l : List Nat) (i : Nat), g (strip l) i = g l i
  | [], i => rfl
  | a :: l, i => by
    show g (push a (strip l)) i = _
    rw [g_push]
    cases i with
    | zero => rfl
    | succ i => rw [g_succ, g_succ, g_strip l i]
theorem g_tail (l : List Nat) (i : Nat) : g l.tail i = g l (i + 1) := by
  cases l with
  | nil => rw [List.tail_nil, g_nil, g_nil]
  | cons a l => rw [List.tail_cons, g_succ]
theorem g_head (l : List Nat) : l.headD 0 = g l 0 := by cases l <;> rfl
theorem g_ge {l : List Nat} {i : Nat} (h : l.length ≤ i) : g l i = 0 := by
  show l.getD i 0 = 0
  rw [List.getD_eq_getElem?_getD, List.getElem?_eq_none h]
  rfl
theorem g_lt {l : List Nat} {i : Nat} (h : i < l.length) : l[i]? = some (g l i) := by
  show l[i]? = some (l.getD i 0)
  rw [List.getD_eq_getElem?_getD, List.getElem?_eq_getElem h]
  rfl
theorem can_push {w : Nat} {l : List Nat} (h : Can l) : Can (push w l) := by
  unfold push
  by_cases e : w = 0 ∧ l = []
  · rw [if_pos e]; rfl
  · rw [if_neg e]
    show push w (strip l) = w :: l
    rw [h]
    unfold push
    rw [if_neg e]
theorem can_strip : ∀ (l : List Nat), Can (strip l)
  | [] => rfl
  | a :: l => can_push (can_strip l)
theorem push_strip {w : Nat} {l : List Nat} (h : Can l) : strip (w :: l) = push w l := by
  show push w (strip l) = push w l
  rw [h]
theorem can_cons {a : Nat} {l : List Nat} (h : Can (a :: l)) : Can l ∧ ¬ (a = 0 ∧ l = []) := by
  have h1 : push a (strip l) = a :: l := h
  unfold push at h1
  by_cases e : a = 0 ∧ strip l = []
  · rw [if_pos e] at h1; cases h1
  · rw [if_neg e] at h1
    obtain ⟨_, h2⟩ := List.cons.inj h1
    refine ⟨h2, fun q => e ⟨q.1, ?_⟩⟩
    rw [h2]; exact q.2
theorem can_tail {l : List Nat} (h : Can l) : Can l.tail := by
  cases l with
  | nil => rfl
  | cons a l => exact (can_cons h).1
theorem can_zero : ∀ {l : List Nat}, Can l → (∀ i, g l i = 0) → l = []
  | [], _, _ => rfl
  | a :: l, h, z => by
    obtain ⟨h1, h2⟩ := can_cons h
    exact absurd ⟨z 0, can_zero h1 fun i => by rw [← g_succ a]; exact z (i + 1)⟩ h2
theorem can_uniq : ∀ {l m : List Nat}, Can l → Can m → (∀ i, g l i = g m i) → l = m
  | [], m, _, hm, e => (can_zero hm fun i => by rw [← e, g_nil]).symm
  | a :: l, [], hl, _, e => can_zero hl fun i => by rw [e, g_nil]
  | a :: l, b :: m, hl, hm, e => by
    have e0 : a = b := e 0
    rw [e0, can_uniq (can_cons hl).1 (can_cons hm).1 fun i => by rw [← g_succ a, ← g_succ b]; exact e (i + 1)]
/-- what the program's loop finds is the stripped list -/
theorem strip_take {l : List Nat} {n : Nat} (hn : n ≤ l.length) (h1 : ∀ i, n ≤ i → i < l.length → g l i = 0) (h2 : n = 0 ∨ g l (n - 1) ≠ 0) : strip l = l.take n := by
  have e : ∀ i, g (l.take n) i = g l i := fun i => by
    by_cases h : i < n
    · show (l.take n).getD i 0 = l.getD i 0
      rw [List.getD_eq_getElem?_getD, List.getD_eq_getElem?_getD, List.getElem?_take, if_pos h]
    · rw [g_ge (by rw [List.length_take]; omega)]
      by_cases h3 : i < l.length
      · exact (h1 i (by omega) h3).symm
      · exact (g_ge (by omega)).symm
  refine can_uniq (can_strip l) ?_ fun i => by rw [g_strip, e]
  have gen : ∀ (m : List Nat), m = [] ∨ g m (m.length - 1) ≠ 0 → Can m := by
    intro m
    induction m with
    | nil => intro _; rfl
    | cons a m ih =>
      intro h
      rcases h with h | h
      · cases h
      · show push a (strip m) = a :: m
        cases m with
        | nil =>
          have h3 : a ≠ 0 := h
          unfold push
          rw [if_neg (fun q => h3 q.1)]
          rfl
        | cons b m =>
          rw [ih (.inr (by
            have : (a :: b :: m).length - 1 = (b :: m).length - 1 + 1 := by simp
            rw [this, g_succ] at h
            exact h))]
          unfold push
          rw [if_neg (fun q => nomatch q.2)]
  refine gen _ ?_
  rcases h2 with h2 | h2
  · left
    rw [h2, List.take_zero]
  · by_cases h3 : n = 0
    · left
      rw [h3, List.take_zero]
    · right
      rw [List.length_take, Nat.min_eq_left hn, e]
      exact h2
/-! ### a zipper stands for a tape and a place -/
structure On (t : Int → Nat) (p : Int) (l : List Nat) (h : Nat) (r : List Nat) : Prop where
  here : t p = h
  left : ∀ i : Nat, t (p - 1 - i) = g l i
  right : ∀ i : Nat, t (p + 1 + i) = g r i
theorem On.uniq {t : Int → Nat} {p : Int} {l l' r r' : List Nat} {h h' : Nat} (a : On t p l h r) (b : On t p l' h' r') (cl : Can l) (cl' : Can l') (cr : Can r) (cr' : Can r') : l = l' ∧ h = h' ∧ r = r' :=
  ⟨can_uniq cl cl' fun i => (a.left i).symm.trans (b.left i), a.here.symm.trans b.here, can_uniq cr cr' fun i => (a.right i).symm.trans (b.right i)⟩
theorem On.stay {t : Int → Nat} {p : Int} {l r : List Nat} {h : Nat} (a : On t p l h r) (w : Nat) : On (up t p w) p l w r :=
  ⟨up_same _ _ _, fun i => by rw [up_ne (by omega)]; exact a.left i, fun i => by rw [up_ne (by omega)]; exact a.right i⟩
theorem On.toRight {t : Int → Nat} {p : Int} {l r : List Nat} {h : Nat} (a : On t p l h r) (w : Nat) : On (up t p w) (p + 1) (push w l) (r.headD 0) r.tail := by
  refine ⟨?_, fun i => ?_, fun i => ?_⟩
  · rw [up_ne (by omega), g_head]
    have := a.right 0
    rw [show p + 1 + ((0 : Nat) : Int) = p + 1 by omega] at this
    exact this
  · rw [g_push]
    cases i with
    | zero => rw [show p + 1 - 1 - ((0 : Nat) : Int) = p by omega, up_same]; rfl
    | succ i =>
      rw [g_succ, up_ne (by omega), ← a.left i]
      congr 1
      omega
  · rw [g_tail, up_ne (by omega), ← a.right (i + 1)]
    congr 1
    omega
theorem On.toLeft {t : Int → Nat} {p : Int} {l r : List Nat} {h : Nat} (a : On t p l h r) (w : Nat) : On (up t p w) (p - 1) l.tail (l.headD 0) (push w r) := by
  refine ⟨?_, fun i => ?_, fun i => ?_⟩
  · rw [up_ne (by omega), g_head]
    have := a.left 0
    rw [show p - 1 - ((0 : Nat) : Int) = p - 1 by omega] at this
    exact this
  · rw [g_tail, up_ne (by omega), ← a.left (i + 1)]
    congr 1
    omega
  · rw [g_push]
    cases i with
    | zero => rw [show p - 1 + 1 + ((0 : Nat) : Int) = p by omega, up_same]; rfl
    | succ i =>
      rw [g_succ, up_ne (by omega), ← a.right i]
      congr 1
      omega
/-! ### runs of zippers -/
inductive CPath (M : Tab) : Cfg → Nat → Cfg → Prop
  | refl (c : Cfg) : CPath M c 0 c
  | step {c c1 c2 : Cfg} {n : Nat} (h : c.st ≠ 0) (e : stepC M c = some c1) (r : CPath M c1 n c2) : CPath M c (n + 1) c2
/-- the size of a configuration -/
def wide (c : Cfg) : Nat := c.l.length + c.r.length
theorem wide_push (w : Nat) (l : List Nat) : (push w l).length ≤ l.length + 1 := by
  unfold push
  split
  · simp
  · simp
theorem wide_step {M : Tab} {c c' : Cfg} (h : stepC M c = some c') : wide c' ≤ wide c + 1 := by
  unfold stepC at h
  split at h
  · cases h
  · rename_i w m q _
    split at h
    · cases h; exact Nat.le_succ _
    · split at h
      · cases h
        have := wide_push w c.l
        show (push w c.l).length + c.r.tail.length ≤ c.l.length + c.r.length + 1
        rw [List.length_tail]
        omega
      · cases h
        have := wide_push w c.r
        show c.l.tail.length + (push w c.r).length ≤ c.l.length + c.r.length + 1
        rw [List.length_tail]
        omega
/-- a table agrees with dl under a numbering of the states -/
structure Agree (M : Tab) (num : Q → Nat) (ok : Q → Prop) : Prop where
  look : ∀ q s d, ok q → s < 14 → d < 2 → M (num q) (2 * s + d) = (dl q s d).map fun z => (2 * z.1 + z.2.1, z.2.2.1, num z.2.2.2)
  keep : ∀ q s d z, ok q → s < 14 → d < 2 → dl q s d = some z → z.1 < 14 ∧ z.2.1 < 2 ∧ ok z.2.2.2 ∧ (z.2.2.1 = 0 ∨ z.2.2.1 = 1 ∨ z.2.2.1 = -1)
  home : num .home = 0
  only : ∀ q, ok q → num q = 0 → q = .home
  okh : ok .home
structure Fit (ok : Q → Prop) (c : T) : Prop where
  q : ok c.q
  S : ∀ i, c.S i < 14
  D : ∀ i, c.D i < 2
def tape (c : T) : Int → Nat := fun i => 2 * c.S i + c.D i
structure Rep (num : Q → Nat) (c : T) (z : Cfg) : Prop where
  st : z.st = num c.q
  on : On (tape c) c.p z.l z.h z.r
  cl : Can z.l
  cr : Can z.r
section
variable {M : Tab} {num : Q → Nat} {ok : Q → Prop}
theorem tape_up (S D : Int → Nat) (p : Int) (w e : Nat) (q q' : Q) (p0 p' : Int) : tape ⟨q', p', up S p w, up D p e⟩ = up (tape ⟨q, p0, S, D⟩) p (2 * w + e) := by
  funext i
  unfold tape up
  dsimp only
  split <;> rfl
/-- a step on the tracks is a step of the zipper -/
theorem rep_step (A : Agree M num ok) {c c' : T} {z : Cfg} (F : Fit ok c) (R : Rep num c z) (h : stepT c = some c') : ∃ z', stepC M z = some z' ∧ Fit ok c' ∧ Rep num c' z' := by
  obtain ⟨q, p, S, D⟩ := c
  unfold stepT at h
  dsimp only at h
  split at h
  · rename_i w e m q' hd
    cases h
    have hs := F.S p
    have hdd := F.D p
    dsimp only at hs hdd
    have hl := A.look q (S p) (D p) F.q hs hdd
    obtain ⟨k1, k2, k3, k4⟩ := A.keep q (S p) (D p) _ F.q hs hdd hd
    dsimp only at k1 k2 k3 k4
    rw [hd] at hl
    have hh : z.h = 2 * S p + D p := R.on.here.symm
    have hst : z.st = num q := R.st
    have F' : Fit ok ⟨q', p + m, up S p w, up D p e⟩ := ⟨k3, fun i => by
      dsimp only
      unfold up
      split
      · exact k1
      · exact F.S i, fun i => by
      dsimp only
      unfold up
      split
      · exact k2
      · exact F.D i⟩
    have ho := R.on
    dsimp only at ho
    unfold stepC
    rw [hst, hh, hl]
    dsimp only [Option.map_some]
    rcases k4 with k4 | k4 | k4
    · subst k4
      rw [if_pos rfl]
      refine ⟨_, rfl, F', rfl, ?_, R.cl, R.cr⟩
      dsimp only
      rw [tape_up S D p w e q q' p (p + 0), Int.add_zero]
      exact ho.stay _
    · subst k4
      rw [if_neg (by decide), if_pos rfl]
      refine ⟨_, rfl, F', rfl, ?_, can_push R.cl, can_tail R.cr⟩
      dsimp only
      rw [tape_up S D p w e q q' p (p + 1)]
      exact ho.toRight _
    · subst k4
      rw [if_neg (by decide), if_neg (by decide)]
      refine ⟨_, rfl, F', rfl, ?_, can_tail R.cl, can_push R.cr⟩
      dsimp only
      rw [tape_up S D p w e q q' p (p + -1)]
      exact ho.toLeft _
  · cases h
theorem rep_stop (A : Agree M num ok) {c : T} {z : Cfg} (F : Fit ok c) (R : Rep num c z) (h : stepT c = none) : stepC M z = none := by
  obtain ⟨q, p, S, D⟩ := c
  unfold stepT at h
  dsimp only at h
  split at h
  · cases h
  · rename_i hd
    have hl := A.look q (S p) (D p) F.q (F.S p) (F.D p)
    rw [hd] at hl
    have hh : z.h = 2 * S p + D p := R.on.here.symm
    have hst : z.st = num q := R.st
    unfold stepC
    rw [hst, hh, hl]
    rfl
theorem rep_path (A : Agree M num ok) {c c' : T} {n : Nat} (h : Path c n c') : ∀ {z : Cfg}, Fit ok c → Rep num c z → ∃ z', CPath M z n z' ∧ Fit ok c' ∧ Rep num c' z' := by
  induction h with
  | refl c => intro z F R; exact ⟨z, .refl z, F, R⟩
  | step hq e _ ih =>
    intro z F R
    obtain ⟨z1, e1, F1, R1⟩ := rep_step A F R e
    obtain ⟨z2, p2, F2, R2⟩ := ih F1 R1
    exact ⟨z2, .step (fun h0 => hq (A.only _ F.q (R.st.symm.trans h0))) e1 p2, F2, R2⟩
theorem rep_uniq {c : T} {z z' : Cfg} (R : Rep num c z) (R' : Rep num c z') : z = z' := by
  obtain ⟨e1, e2, e3⟩ := R.on.uniq R'.on R.cl R'.cl R.cr R'.cr
  obtain ⟨_, _, _, _⟩ := z
  obtain ⟨_, _, _, _⟩ := z'
  have e0 := R.st.trans R'.st.symm
  dsimp only at e0 e1 e2 e3
  rw [e0, e1, e2, e3]
end
end UM
/-! The code of a machine as a list of signs; pictures and how they are read back; the universal machine keeps point 18. -/
namespace UM
/-! ### lists by places -/
theorem g_app_l {l m : List Nat} {i : Nat} (h : i < l.length) : g (l ++ m) i = g l i := by
  show (l ++ m).getD i 0 = l.getD i 0
  rw [List.getD_eq_getElem?_getD, List.getD_eq_getElem?_getD, List.getElem?_append_left h]
theorem g_app_r {l m : List Nat} {i : Nat} : g (l ++ m) (l.length + i) = g m i := by
  show (l ++ m).getD (l.length + i) 0 = m.getD i 0
  rw [List.getD_eq_getElem?_getD, List.getD_eq_getElem?_getD, List.getElem?_append_right (Nat.le_add_right _ _), Nat.add_sub_cancel_left]
theorem g_mem {l : List Nat} {i : Nat} (h : i < l.length) : g l i ∈ l := List.mem_of_getElem? (g_lt h)
theorem g_rep {n x i : Nat} (h : i < n) : g (List.replicate n x) i = x := by
  show (List.replicate n x).getD i 0 = x
  rw [List.getD_eq_getElem?_getD, List.getElem?_replicate, if_pos h]
  rfl
/-! ### the signs -/
def entL : Ent → List Nat
  | none => [13, 12]
  | some (w, s, f) => [7 + w, s] ++ List.replicate f 5 ++ [12]
def rowL (e : Nat → Nat → Ent) (r : Nat) : List Nat := entL (e r 0) ++ entL (e r 1)
/-- OPEN and the first r rows, their marks by mk -/
def pre (e : Nat → Nat → Ent) (mk : Nat → Nat) : Nat → List Nat
  | 0 => [1]
  | r + 1 => pre e mk r ++ mk r :: rowL e r
def codeL (n : Nat) (e : Nat → Nat → Ent) (q : Nat) : List Nat := pre e (fun r => if r = q then 4 else 3) n ++ [2]
def rowM : Nat → Nat := fun _ => 3
def baseL (n : Nat) (e : Nat → Nat → Ent) : List Nat := pre e rowM n ++ [2]
def off (e : Nat → Nat → Ent) (r : Nat) : Nat := (pre e rowM r).length
section
variable {e : Nat → Nat → Ent} {mk : Nat → Nat} {n : Nat}
theorem len_pre : ∀ (r : Nat), (pre e mk r).length = off e r
  | 0 => rfl
  | r + 1 => by
    show (pre e mk r ++ mk r :: rowL e r).length = (pre e rowM r ++ rowM r :: rowL e r).length
    rw [List.length_append, List.length_append, len_pre r]
    rfl
theorem off_succ (r : Nat) : off e (r + 1) = off e r + (rowL e r).length + 1 := by
  show (pre e rowM r ++ rowM r :: rowL e r).length = _
  rw [List.length_append, List.length_cons]
  exact (Nat.add_assoc _ _ _).symm
theorem off_zero : off e 0 = 1 := rfl
theorem off_le {r s : Nat} (h : r ≤ s) : off e r ≤ off e s := by
  induction h with
  | refl => exact Nat.le_refl _
  | step _ ih => exact Nat.le_trans ih (by rw [off_succ]; omega)
theorem off_lt {r s : Nat} (h : r < s) : off e r < off e s := Nat.lt_of_lt_of_le (by rw [off_succ]; omega) (off_le h)
/-- the row r within the first n -/
theorem g_pre_row {r j : Nat} (hr : r < n) (hj : j < (rowL e r).length) : g (pre e mk n) (off e r + 1 + j) = g (rowL e r) j := by
  induction n with
  | zero => omega
  | succ n ih =>
    show g (pre e mk n ++ mk n :: rowL e n) _ = _
    by_cases h : r = n
    · rw [h, ← len_pre (mk := mk) n, Nat.add_assoc, g_app_r, Nat.add_comm, g_succ]
    · rw [g_app_l, ih (by omega)]
      rw [len_pre]
      have := off_le (e := e) (show r + 1 ≤ n by omega)
      rw [off_succ] at this
      omega
theorem g_pre_mk {r : Nat} (hr : r < n) : g (pre e mk n) (off e r) = mk r := by
  induction n with
  | zero => omega
  | succ n ih =>
    show g (pre e mk n ++ mk n :: rowL e n) _ = _
    by_cases h : r = n
    · have := g_app_r (l := pre e mk n) (m := mk n :: rowL e n) (i := 0)
      rw [h, ← len_pre (mk := mk) n]
      exact this
    · rw [g_app_l, ih (by omega)]
      rw [len_pre]
      exact off_lt (by omega)
theorem g_pre_0 : ∀ (n : Nat), g (pre e mk n) 0 = 1
  | 0 => rfl
  | n + 1 => by
    show g (pre e mk n ++ mk n :: rowL e n) 0 = 1
    rw [g_app_l (by rw [len_pre]; exact Nat.lt_of_lt_of_le (by decide : 0 < 1) (off_le (Nat.zero_le n))), g_pre_0 n]
/-- each place behind OPEN is a row's mark or in a row -/
theorem place_row : ∀ {n i : Nat}, 0 < i → i < off e n → ∃ r, r < n ∧ (i = off e r ∨ ∃ j, j < (rowL e r).length ∧ i = off e r + 1 + j)
  | 0, i, h1, h2 => by rw [off_zero] at h2; omega
  | n + 1, i, h1, h2 => by
    by_cases h : i < off e n
    · obtain ⟨r, hr, q⟩ := place_row h1 h
      exact ⟨r, by omega, q⟩
    · rw [off_succ] at h2
      refine ⟨n, by omega, ?_⟩
      by_cases h3 : i = off e n
      · exact .inl h3
      · exact .inr ⟨i - off e n - 1, by omega, by omega⟩
theorem ent_mem {o : Ent} {m : Nat} (F : Fine m o) : ∀ x ∈ entL o, 5 ≤ x ∧ x ≤ 13 ∧ x ≠ 6 := by
  intro x hx
  cases o with
  | none =>
    rcases List.mem_cons.mp hx with h | h
    · omega
    · have := List.mem_singleton.mp h
      omega
  | some z =>
    obtain ⟨w, s, f⟩ := z
    obtain ⟨F1, F2, F3, F4⟩ := F
    have h : x ∈ [7 + w, s] ++ List.replicate f 5 ++ [12] := hx
    rcases List.mem_append.mp h with h | h
    · rcases List.mem_append.mp h with h | h
      · rcases List.mem_cons.mp h with h | h
        · omega
        · have := List.mem_singleton.mp h
          omega
      · have := List.eq_of_mem_replicate h
        omega
    · have := List.mem_singleton.mp h
      omega
theorem ent_len (o : Ent) : 2 ≤ (entL o).length := by
  cases o with
  | none => exact Nat.le_refl 2
  | some z =>
    obtain ⟨w, s, f⟩ := z
    show 2 ≤ ([7 + w, s] ++ List.replicate f 5 ++ [12]).length
    rw [List.length_append, List.length_append]
    show 2 ≤ 2 + _ + 1
    omega
theorem ent_last (o : Ent) : g (entL o) ((entL o).length - 1) = 12 := by
  cases o with
  | none => rfl
  | some z =>
    obtain ⟨w, s, f⟩ := z
    show g ([7 + w, s] ++ List.replicate f 5 ++ [12]) (([7 + w, s] ++ List.replicate f 5 ++ [12]).length - 1) = 12
    have h := g_app_r (l := [7 + w, s] ++ List.replicate f 5) (m := [12]) (i := 0)
    rw [List.length_append (as := [7 + w, s] ++ List.replicate f 5), List.length_singleton, Nat.add_sub_cancel]
    exact h
theorem ent_comma {o : Ent} {m : Nat} (F : Fine m o) {j : Nat} (h : j + 1 < (entL o).length) : g (entL o) j ≠ 12 := by
  cases o with
  | none =>
    have : j = 0 := by
      have : (entL none).length = 2 := rfl
      omega
    subst this
    decide
  | some z =>
    obtain ⟨w, s, f⟩ := z
    obtain ⟨F1, F2, F3, F4⟩ := F
    have hl : (entL (some (w, s, f))).length = 2 + f + 1 := by
      show ([7 + w, s] ++ List.replicate f 5 ++ [12]).length = _
      rw [List.length_append, List.length_append, List.length_replicate]
      rfl
    show g ([7 + w, s] ++ List.replicate f 5 ++ [12]) j ≠ 12
    rw [g_app_l (by rw [List.length_append, List.length_replicate]; show j < 2 + f; omega)]
    by_cases h2 : j < 2
    · rw [g_app_l (by show j < 2; exact h2)]
      rcases (by omega : j = 0 ∨ j = 1) with h3 | h3
      · rw [h3]; show 7 + w ≠ 12; omega
      · rw [h3]; show s ≠ 12; omega
    · have e2 : j = ([7 + w, s] : List Nat).length + (j - 2) := by show j = 2 + (j - 2); omega
      rw [e2, g_app_r, g_rep (by omega)]
      decide
end
/-- the signs on the tape, the code at a -/
def signsAt (a : Int) (l : List Nat) : Int → Nat := fun i => if i < a then 0 else g l (i - a).toNat
theorem signsAt_at {a : Int} {l : List Nat} (j : Nat) : signsAt a l (a + j) = g l j := by
  unfold signsAt
  rw [if_neg (by omega)]
  congr 1
  omega
section
variable {n : Nat} {e : Nat → Nat → Ent} {a : Int}
theorem base_pre {i : Nat} (h : i < off e n) : signsAt a (baseL n e) (a + i) = g (pre e rowM n) i := by
  rw [signsAt_at]
  exact g_app_l (by rw [len_pre]; exact h)
theorem base_row {r j : Nat} (hr : r < n) (hj : j < (rowL e r).length) : signsAt a (baseL n e) (a + off e r + 1 + j) = g (rowL e r) j := by
  have h1 := off_le (e := e) (show r + 1 ≤ n by omega)
  rw [off_succ] at h1
  have h := base_pre (a := a) (e := e) (n := n) (i := off e r + 1 + j) (by omega)
  rw [g_pre_row hr hj] at h
  rw [← h]
  congr 1
  omega
theorem len_row (r : Nat) : (rowL e r).length = (entL (e r 0)).length + (entL (e r 1)).length := List.length_append
theorem base_ent0 {r j : Nat} (hr : r < n) (hj : j < (entL (e r 0)).length) : signsAt a (baseL n e) (a + off e r + 1 + j) = g (entL (e r 0)) j := by
  rw [base_row hr (by rw [len_row]; omega)]
  exact g_app_l hj
theorem base_ent1 {r j : Nat} (hr : r < n) (hj : j < (entL (e r 1)).length) : signsAt a (baseL n e) (a + off e r + (entL (e r 0)).length + 1 + j) = g (entL (e r 1)) j := by
  have h := base_row (a := a) (e := e) (n := n) (j := (entL (e r 0)).length + j) hr (by rw [len_row]; omega)
  rw [show g (rowL e r) ((entL (e r 0)).length + j) = g (entL (e r 1)) j from g_app_r] at h
  rw [← h]
  congr 1
  omega
/-- an entry's list stands where it should -/
theorem entAt_of {B : Int → Nat} {p z : Int} {o : Ent} (h : ∀ j : Nat, j < (entL o).length → B (p + j) = g (entL o) j) (hz : p + (entL o).length ≤ z) : EntAt B p z o := by
  have l2 := ent_len o
  cases o with
  | none =>
    have h0 := h 0 (by decide)
    rw [show p + ((0 : Nat) : Int) = p by omega] at h0
    exact ⟨h0, by omega⟩
  | some x =>
    obtain ⟨w, s, f⟩ := x
    have hl : (entL (some (w, s, f))).length = 2 + f + 1 := by
      show ([7 + w, s] ++ List.replicate f 5 ++ [12]).length = _
      rw [List.length_append, List.length_append, List.length_replicate]
      rfl
    rw [hl] at h hz
    have h0 := h 0 (by omega)
    have h1 := h 1 (by omega)
    rw [show p + ((0 : Nat) : Int) = p by omega] at h0
    refine ⟨h0, h1, fun i h2 h3 => ?_, ?_, by omega⟩
    · have q := h (i - p).toNat (by omega)
      rw [show p + ((i - p).toNat : Int) = i by omega] at q
      rw [q]
      show g ([7 + w, s] ++ List.replicate f 5 ++ [12]) _ = 5
      rw [g_app_l (by rw [List.length_append, List.length_replicate]; show _ < 2 + f; omega)]
      have e2 : (i - p).toNat = ([7 + w, s] : List Nat).length + ((i - p).toNat - 2) := by show _ = 2 + _; omega
      rw [e2, g_app_r, g_rep (by omega)]
    · have q := h (2 + f) (by omega)
      rw [show p + ((2 + f : Nat) : Int) = p + 2 + f by omega] at q
      rw [q]
      have q2 := ent_last (some (w, s, f))
      rw [hl] at q2
      exact q2
theorem base_code (hn : 0 < n) (hF : ∀ r b, r < n → b < 2 → Fine n (e r b)) :
    Code n e a (a + off e n) (fun r => a + off e r) (fun r => a + off e r + (entL (e r 0)).length) (signsAt a (baseL n e)) := by
  have le : ∀ r, r < n → off e r + (rowL e r).length + 1 ≤ off e n := fun r hr => by
    have h1 := off_le (e := e) (show r + 1 ≤ n by omega)
    rw [off_succ] at h1
    exact h1
  have o1 : ∀ r, 1 ≤ off e r := fun r => off_le (e := e) (Nat.zero_le r)
  have rowmem : ∀ r j, r < n → j < (rowL e r).length → 5 ≤ g (rowL e r) j ∧ g (rowL e r) j ≤ 13 ∧ g (rowL e r) j ≠ 6 := fun r j hr hj => by
    rcases List.mem_append.mp (g_mem hj) with h | h
    · exact ent_mem (hF r 0 hr (by decide)) _ h
    · exact ent_mem (hF r 1 hr (by decide)) _ h
  refine ⟨?_, ?_, ?_, ?_, ?_, ?_, ?_, ?_, ?_, ?_, ?_, ?_, hF⟩
  · have := o1 n; omega
  · have h := base_pre (a := a) (e := e) (n := n) (i := 0) (by have := o1 n; omega)
    rw [g_pre_0, show a + ((0 : Nat) : Int) = a by omega] at h
    exact h
  · rw [signsAt_at]
    have h := g_app_r (l := pre e rowM n) (m := [2]) (i := 0)
    rw [len_pre] at h
    exact h
  · intro i hi
    unfold signsAt
    rw [if_pos hi]
  · intro i hi
    unfold signsAt
    rw [if_neg (by omega)]
    refine g_ge ?_
    show (pre e rowM n ++ [2]).length ≤ _
    rw [List.length_append, len_pre]
    show off e n + 1 ≤ _
    omega
  · intro i h1 h2
    obtain ⟨r, hr, q⟩ := place_row (e := e) (n := n) (i := (i - a).toNat) (by omega) (by omega)
    rcases q with q | ⟨j, hj, q⟩
    · have h := base_pre (a := a) (e := e) (n := n) (i := off e r) (off_lt hr)
      rw [g_pre_mk hr] at h
      rw [show i = a + off e r by omega, h]
      exact (by decide : 3 ≤ (3 : Nat) ∧ (3 : Nat) ≤ 13 ∧ (3 : Nat) ≠ 4 ∧ (3 : Nat) ≠ 6)
    · rw [show i = a + off e r + 1 + j by omega, base_row hr hj]
      have := rowmem r j hr hj
      omega
  · intro r hr
    have h1 := o1 r
    have h2 := le r hr
    rw [len_row] at h2
    have h3 := ent_len (e r 0)
    have h4 := ent_len (e r 1)
    refine ⟨by omega, by omega, by omega, ?_, ?_⟩
    · rw [base_pre (off_lt hr), g_pre_mk hr]
      rfl
    · have h := base_ent0 (a := a) (e := e) (n := n) (j := (entL (e r 0)).length - 1) hr (by omega)
      rw [ent_last] at h
      rw [← h]
      congr 1
      omega
  · rw [off_zero]
    rfl
  · intro r hr
    have := off_succ (e := e) r
    refine ⟨by omega, fun i h1 h2 => ?_⟩
    have q := base_row (a := a) (e := e) (n := n) (j := (i - a).toNat - off e r - 1) (show r < n by omega) (by omega)
    rw [show a + off e r + 1 + (((i - a).toNat - off e r - 1 : Nat) : Int) = i by omega] at q
    rw [q]
    have := rowmem r ((i - a).toNat - off e r - 1) (by omega) (by omega)
    omega
  · intro r hr i h1 h2
    have q := base_ent0 (a := a) (e := e) (n := n) (j := (i - a).toNat - off e r - 1) hr (by omega)
    rw [show a + off e r + 1 + (((i - a).toNat - off e r - 1 : Nat) : Int) = i by omega] at q
    rw [q]
    exact ent_comma (hF r 0 hr (by decide)) (by omega)
  · intro r hr
    have h2 := le r hr
    rw [len_row] at h2
    exact entAt_of (fun j hj => base_ent0 hr hj) (by omega)
  · intro r hr
    have h2 := le r hr
    rw [len_row] at h2
    exact entAt_of (fun j hj => base_ent1 hr hj) (by omega)
/-- the code with its active row -/
theorem code_up {q : Nat} (hq : q < n) : signsAt a (codeL n e q) = up (signsAt a (baseL n e)) (a + off e q) 4 := by
  funext i
  unfold up signsAt
  by_cases h : i < a
  · rw [if_pos h, if_pos h, if_neg (by omega)]
  · rw [if_neg h, if_neg h]
    have gen : ∀ j : Nat, g (codeL n e q) j = if j = off e q then 4 else g (baseL n e) j := fun j => by
      by_cases h2 : j < off e n
      · show g (pre e _ n ++ [2]) j = if j = off e q then 4 else g (pre e rowM n ++ [2]) j
        rw [g_app_l (by rw [len_pre]; exact h2), g_app_l (by rw [len_pre]; exact h2)]
        by_cases h3 : j = 0
        · rw [h3, g_pre_0, g_pre_0, if_neg]
          have := off_le (e := e) (Nat.zero_le q)
          rw [off_zero] at this
          omega
        · obtain ⟨r, hr, p⟩ := place_row (e := e) (n := n) (i := j) (by omega) h2
          rcases p with p | ⟨k, hk, p⟩
          · rw [p, g_pre_mk hr, g_pre_mk hr]
            by_cases h4 : r = q
            · rw [if_pos h4, if_pos (by rw [h4])]
            · rw [if_neg h4, if_neg]
              · rfl
              · intro e2
                rcases Nat.lt_or_gt_of_ne h4 with h5 | h5
                · have := off_lt (e := e) h5; omega
                · have := off_lt (e := e) h5; omega
          · rw [p, g_pre_row hr hk, g_pre_row hr hk, if_neg]
            intro e2
            rcases Nat.lt_trichotomy r q with h5 | h5 | h5
            · have := off_le (e := e) (show r + 1 ≤ q by omega)
              rw [off_succ] at this
              omega
            · rw [h5] at e2; omega
            · have := off_lt (e := e) h5; omega
      · rw [if_neg (by have := off_lt (e := e) hq; omega)]
        show g (pre e _ n ++ [2]) j = g (pre e rowM n ++ [2]) j
        rw [show j = off e n + (j - off e n) by omega]
        have e1 := g_app_r (l := pre e (fun r => if r = q then 4 else 3) n) (m := [2]) (i := j - off e n)
        have e2 := g_app_r (l := pre e rowM n) (m := [2]) (i := j - off e n)
        rw [len_pre] at e1 e2
        rw [e1, e2]
    rw [gen]
    by_cases h2 : (i - a).toNat = off e q
    · rw [if_pos h2, if_pos (by omega)]
    · rw [if_neg h2, if_neg (by omega)]
end
end UM
/-! Pictures, how they are read back, and the promise of point 18 for the universal machine. -/
namespace UM
/-- the entries of a source -/
def entM (M : Tab) (r b : Nat) : Ent := (M r b).map fun x => (x.1, (10 + x.2.1).toNat, x.2.2)
structure MOk (n : Nat) (M : Tab) : Prop where
  pos : 0 < n
  ok : ∀ r b w m f, r < n → b < 2 → M r b = some (w, m, f) → w < 2 ∧ (m = -1 ∨ m = 0 ∨ m = 1) ∧ f < n
structure COk (n : Nat) (c : Cfg) : Prop where
  st : c.st < n
  h : c.h < 2
  l : ∀ i, g c.l i < 2
  r : ∀ i, g c.r i < 2
  cl : Can c.l
  cr : Can c.r
def cellsL (sg dg : List Nat) : List Nat :=
  List.zipWith (fun s d => 2 * s + d) (sg ++ List.replicate (max sg.length dg.length - sg.length) 0) (dg ++ List.replicate (max sg.length dg.length - dg.length) 0)
def pic (n : Nat) (e : Nat → Nat → Ent) (c : Cfg) : Cfg := ⟨0, c.l, g (cellsL (codeL n e c.st) (c.h :: c.r)) 0, strip (cellsL (codeL n e c.st) (c.h :: c.r)).tail⟩
theorem g_pad (l : List Nat) (k i : Nat) : g (l ++ List.replicate k 0) i = g l i := by
  by_cases h : i < l.length
  · exact g_app_l h
  · rw [show i = l.length + (i - l.length) by omega, g_app_r, g_ge (by omega : l.length ≤ _)]
    by_cases h2 : i - l.length < k
    · exact g_rep h2
    · exact g_ge (by rw [List.length_replicate]; omega)
theorem g_cells (sg dg : List Nat) (i : Nat) : g (cellsL sg dg) i = 2 * g sg i + g dg i := by
  by_cases h : i < max sg.length dg.length
  · have h1 : i < (sg ++ List.replicate (max sg.length dg.length - sg.length) 0).length := by rw [List.length_append, List.length_replicate]; omega
    have h2 : i < (dg ++ List.replicate (max sg.length dg.length - dg.length) 0).length := by rw [List.length_append, List.length_replicate]; omega
    have e1 := g_lt h1
    have e2 := g_lt h2
    rw [g_pad] at e1 e2
    show (cellsL sg dg).getD i 0 = _
    unfold cellsL
    rw [List.getD_eq_getElem?_getD, List.getElem?_zipWith, e1, e2]
    rfl
  · rw [g_ge (by omega : sg.length ≤ i), g_ge (by omega : dg.length ≤ i), g_ge]
    unfold cellsL
    rw [List.length_zipWith, List.length_append, List.length_append, List.length_replicate, List.length_replicate]
    omega
theorem len_cells (sg dg : List Nat) : (cellsL sg dg).length = max sg.length dg.length := by
  unfold cellsL
  rw [List.length_zipWith, List.length_append, List.length_append, List.length_replicate, List.length_replicate]
  omega
section
variable {n : Nat} {M : Tab} {a : Int}
theorem ent_fine (O : MOk n M) : ∀ r b, r < n → b < 2 → Fine n (entM M r b) := fun r b hr hb => by
  unfold entM
  cases h : M r b with
  | none => exact True.intro
  | some x =>
    obtain ⟨w, m, f⟩ := x
    obtain ⟨h1, h2, h3⟩ := O.ok r b w m f hr hb h
    show w < 2 ∧ 9 ≤ (10 + m).toNat ∧ (10 + m).toNat ≤ 11 ∧ f < n
    refine ⟨h1, ?_, ?_, h3⟩ <;> omega
theorem pic_rep {num : Q → Nat} (h0 : num .home = 0) {e : Nat → Nat → Ent} {c : Cfg} {D : Int → Nat} (hD : On D a c.l c.h c.r) (cl : Can c.l) : Rep num ⟨.home, a, signsAt a (codeL n e c.st), D⟩ (pic n e c) := by
  refine ⟨h0.symm, ⟨?_, fun i => ?_, fun i => ?_⟩, cl, can_strip _⟩
  · show 2 * signsAt a (codeL n e c.st) a + D a = g (cellsL (codeL n e c.st) (c.h :: c.r)) 0
    have := signsAt_at (a := a) (l := codeL n e c.st) 0
    rw [show a + ((0 : Nat) : Int) = a by omega] at this
    rw [g_cells, this, hD.here]
    rfl
  · show 2 * signsAt a (codeL n e c.st) (a - 1 - i) + D (a - 1 - i) = g c.l i
    rw [hD.left]
    unfold signsAt
    rw [if_pos (by omega)]
    omega
  · show 2 * signsAt a (codeL n e c.st) (a + 1 + i) + D (a + 1 + i) = g (strip (cellsL (codeL n e c.st) (c.h :: c.r)).tail) i
    have := signsAt_at (a := a) (l := codeL n e c.st) (i + 1)
    rw [show a + ((i + 1 : Nat) : Int) = a + 1 + i by omega] at this
    rw [g_strip, g_tail, g_cells, this, hD.right, g_succ]
theorem sign_lt (O : MOk n M) {q : Nat} (hq : q < n) (i : Int) : signsAt a (codeL n (entM M) q) i < 14 := by
  have C := base_code (a := a) O.pos (ent_fine O)
  rw [code_up hq]
  by_cases h : i = a + off (entM M) q
  · rw [h, up_same]; decide
  · rw [up_ne h]
    by_cases h1 : i < a
    · rw [C.outl i h1]; decide
    · by_cases h2 : a + off (entM M) n < i
      · rw [C.outr i h2]; decide
      · by_cases h3 : i = a
        · rw [h3, C.op]; decide
        · by_cases h4 : i = a + off (entM M) n
          · rw [h4, C.cl]; decide
          · have := C.inn i (by omega) (by omega)
            omega
/-- the tape of a configuration, its head at a -/
def tapeOf (a : Int) (c : Cfg) : Int → Nat := fun i => if i < a then g c.l (a - 1 - i).toNat else if i = a then c.h else g c.r (i - a - 1).toNat
theorem tapeOf_on (c : Cfg) : On (tapeOf a c) a c.l c.h c.r := by
  refine ⟨?_, fun i => ?_, fun i => ?_⟩
  · unfold tapeOf
    rw [if_neg (by omega), if_pos rfl]
  · unfold tapeOf
    rw [if_pos (by omega)]
    congr 1
    omega
  · unfold tapeOf
    rw [if_neg (by omega), if_neg (by omega)]
    congr 1
    omega
theorem tapeOf_lt {c : Cfg} (C : COk n c) (i : Int) : tapeOf a c i < 2 := by
  unfold tapeOf
  split
  · exact C.l _
  · split
    · exact C.h
    · exact C.r _
theorem push_lt {w : Nat} {l : List Nat} (hw : w < 2) (h : ∀ i, g l i < 2) (i : Nat) : g (push w l) i < 2 := by
  rw [g_push]
  cases i with
  | zero => exact hw
  | succ i => rw [g_succ]; exact h i
theorem tail_lt {l : List Nat} (h : ∀ i, g l i < 2) (i : Nat) : g l.tail i < 2 := by rw [g_tail]; exact h _
/-- a step of the source keeps its configurations -/
theorem cok_step (O : MOk n M) {c c' : Cfg} (C : COk n c) (h : stepC M c = some c') : COk n c' := by
  unfold stepC at h
  split at h
  · cases h
  · rename_i w m q hm
    obtain ⟨h1, h2, h3⟩ := O.ok _ _ _ _ _ C.st C.h hm
    split at h
    · cases h; exact ⟨h3, h1, C.l, C.r, C.cl, C.cr⟩
    · split at h
      · cases h
        exact ⟨h3, by rw [g_head]; exact C.r 0, push_lt h1 C.l, tail_lt C.r, can_push C.cl, can_tail C.cr⟩
      · cases h
        exact ⟨h3, by rw [g_head]; exact C.l 0, tail_lt C.l, push_lt h1 C.r, can_tail C.cl, can_push C.cr⟩
theorem shift_signs (a m : Int) (l : List Nat) : (fun i => signsAt a l (i - m)) = signsAt (a + m) l := by
  funext i
  unfold signsAt
  by_cases h : i - m < a
  · rw [if_pos h, if_pos (by omega)]
  · rw [if_neg h, if_neg (by omega)]
    congr 1
    omega
/-- the first step -/
theorem first_step {S D : Int → Nat} (h : S a = 1) : stepT ⟨.home, a, S, D⟩ = some ⟨.find (D a), a + 1, S, D⟩ := by
  have h1 : dl .home (S a) (D a) = some (1, D a, 1, .find (D a)) := by
    show (if S a = 1 then some (1, D a, (1 : Int), Q.find (D a)) else none) = _
    rw [if_pos h]
  unfold stepT
  dsimp only
  rw [h1]
  dsimp only
  rw [← h, up_self, up_self]
theorem off_bound (O : MOk n M) : ∀ r, r ≤ n → off (entM M) r ≤ 1 + r * (2 * n + 6)
  | 0, _ => by rw [off_zero]; omega
  | r + 1, h => by
    have ih := off_bound O r (by omega)
    rw [off_succ]
    have le : ∀ b, b < 2 → (entL (entM M r b)).length ≤ n + 2 := fun b hb => by
      have F := ent_fine O r b (by omega) hb
      cases hx : entM M r b with
      | none => show 2 ≤ n + 2; omega
      | some x =>
        obtain ⟨w, s, f⟩ := x
        rw [hx] at F
        obtain ⟨_, _, _, F4⟩ := F
        show ([7 + w, s] ++ List.replicate f 5 ++ [12]).length ≤ n + 2
        rw [List.length_append, List.length_append, List.length_replicate]
        show 2 + f + 1 ≤ n + 2
        omega
    have l0 := le 0 (by decide)
    have l1 := le 1 (by decide)
    rw [len_row, Nat.succ_mul]
    omega
section
variable {U : Tab} {num : Q → Nat} {ok : Q → Prop}
/-- point 18, a step: the universal machine goes from picture to picture -/
theorem uni_some (A : Agree U num ok) (O : MOk n M) (hn : n ≤ 4) {c c' : Cfg} (C : COk n c) (h : stepC M c = some c') :
    ∃ z1 k, k ≤ 3000 ∧ stepC U (pic n (entM M) c) = some z1 ∧ CPath U z1 k (pic n (entM M) c') := by
  have Cd := base_code (a := 0) O.pos (ent_fine O)
  have hD := tapeOf_on (a := 0) c
  have R := pic_rep (n := n) (e := entM M) A.home hD C.cl
  have F : Fit ok ⟨.home, 0, signsAt 0 (codeL n (entM M) c.st), tapeOf 0 c⟩ := ⟨A.okh, sign_lt O C.st, tapeOf_lt C⟩
  have sa : signsAt 0 (codeL n (entM M) c.st) 0 = 1 := by
    rw [code_up C.st, up_ne (by have := off_le (e := entM M) (Nat.zero_le c.st); rw [off_zero] at this; omega)]
    exact Cd.op
  obtain ⟨z1, e1, F1, R1⟩ := rep_step A F R (first_step sa)
  -- the rule
  have hh : tapeOf 0 c 0 = c.h := hD.here
  rw [hh] at F1 R1
  obtain ⟨w, m, f, hm⟩ : ∃ w m f, M c.st c.h = some (w, m, f) := by
    unfold stepC at h
    split at h
    · cases h
    · exact ⟨_, _, _, by assumption⟩
  obtain ⟨m1, m2, m3⟩ := O.ok _ _ _ _ _ C.st C.h hm
  have he : entM M c.st c.h = some (w, (10 + m).toNat, f) := by
    unfold entM
    rw [hm]
    rfl
  have ob := off_bound O n (Nat.le_refl n)
  have hL : (0 : Int) + off (entM M) n - 0 ≤ ((57 : Nat) : Int) := by
    have : n * (2 * n + 6) ≤ 56 := by
      rcases (by omega : n = 0 ∨ n = 1 ∨ n = 2 ∨ n = 3 ∨ n = 4) with r | r | r | r | r <;> (rw [r]; decide)
    omega
  obtain ⟨k, hk, p⟩ := sim_some (D := tapeOf 0 c) Cd C.st C.h hL he
  rw [← code_up C.st] at p
  obtain ⟨z2, p2, F2, R2⟩ := rep_path A p F1 R1
  have em : (((10 + m).toNat : Nat) : Int) - 10 = m := by omega
  rw [em, show up (signsAt 0 (baseL n (entM M))) (0 + off (entM M) f) 4 = signsAt 0 (codeL n (entM M) f) from (code_up m3).symm, shift_signs] at R2
  -- the picture of what comes next
  have R3 : Rep num ⟨.home, 0 + m, signsAt (0 + m) (codeL n (entM M) f), up (tapeOf 0 c) 0 w⟩ (pic n (entM M) c') := by
    unfold stepC at h
    rw [hm] at h
    dsimp only at h
    rcases m2 with rfl | rfl | rfl
    · rw [if_neg (by decide), if_neg (by decide)] at h
      cases h
      exact pic_rep (c := ⟨f, c.l.tail, c.l.headD 0, push w c.r⟩) A.home (hD.toLeft w) (can_tail C.cl)
    · rw [if_pos rfl] at h
      cases h
      exact pic_rep (c := ⟨f, c.l, w, c.r⟩) A.home (by rw [Int.add_zero]; exact hD.stay w) C.cl
    · rw [if_neg (by decide), if_pos rfl] at h
      cases h
      exact pic_rep (c := ⟨f, push w c.l, c.r.headD 0, c.r.tail⟩) A.home (hD.toRight w) (can_push C.cl)
  rw [rep_uniq R2 R3] at p2
  refine ⟨z1, k, ?_, e1, p2⟩
  have f3 : f ≤ 3 := by omega
  have : f * (5 * 57 + 6) ≤ 3 * (5 * 57 + 6) := Nat.mul_le_mul_right _ f3
  omega
/-- point 18, the end: it ends, its tape being that of the picture -/
theorem uni_none (A : Agree U num ok) (O : MOk n M) (hn : n ≤ 4) {c : Cfg} (C : COk n c) (h : stepC M c = none) :
    ∃ z1 k z2 t, k ≤ 3000 ∧ stepC U (pic n (entM M) c) = some z1 ∧ CPath U z1 k z2 ∧ z2.st ≠ 0 ∧ stepC U z2 = none ∧ Rep num t z2 ∧ t.S = signsAt 0 (codeL n (entM M) c.st) ∧ t.D = tapeOf 0 c := by
  have Cd := base_code (a := 0) O.pos (ent_fine O)
  have hD := tapeOf_on (a := 0) c
  have R := pic_rep (n := n) (e := entM M) A.home hD C.cl
  have F : Fit ok ⟨.home, 0, signsAt 0 (codeL n (entM M) c.st), tapeOf 0 c⟩ := ⟨A.okh, sign_lt O C.st, tapeOf_lt C⟩
  have sa : signsAt 0 (codeL n (entM M) c.st) 0 = 1 := by
    rw [code_up C.st, up_ne (by have := off_le (e := entM M) (Nat.zero_le c.st); rw [off_zero] at this; omega)]
    exact Cd.op
  obtain ⟨z1, e1, F1, R1⟩ := rep_step A F R (first_step sa)
  have hh : tapeOf 0 c 0 = c.h := hD.here
  rw [hh] at F1 R1
  have hm : M c.st c.h = none := by
    unfold stepC at h
    split at h
    · assumption
    · split at h
      · cases h
      · split at h <;> cases h
  have he : entM M c.st c.h = none := by
    unfold entM
    rw [hm]
    rfl
  have ob := off_bound O n (Nat.le_refl n)
  have hL : (0 : Int) + off (entM M) n - 0 ≤ ((57 : Nat) : Int) := by
    have : n * (2 * n + 6) ≤ 56 := by
      rcases (by omega : n = 0 ∨ n = 1 ∨ n = 2 ∨ n = 3 ∨ n = 4) with r | r | r | r | r <;> (rw [r]; decide)
    omega
  obtain ⟨t, t1, t2, t3, t4, k, hk, p⟩ := sim_none (D := tapeOf 0 c) Cd C.st C.h hL he
  rw [← code_up C.st] at p t3
  obtain ⟨z2, p2, F2, R2⟩ := rep_path A p F1 R1
  exact ⟨z1, k, z2, t, by omega, e1, p2, fun q => t1 (A.only _ F2.q (R2.st.symm.trans q)), rep_stop A F2 R2 t2, R2, t3, t4⟩
end
end
/-! ### reading back -/
def cellsOf (z : Cfg) : List Nat := z.l.reverse ++ [z.h] ++ z.r
def rb (z : Cfg) : Cfg :=
  ⟨(((cellsOf z).map (· / 2)).filter fun s => s == 3 || s == 4).idxOf 4, strip (((cellsOf z).map (· % 2)).take (((cellsOf z).map (· / 2)).idxOf 1)).reverse,
    g ((cellsOf z).map (· % 2)) (((cellsOf z).map (· / 2)).idxOf 1), strip (((cellsOf z).map (· % 2)).drop (((cellsOf z).map (· / 2)).idxOf 1 + 1))⟩
theorem idx_of : ∀ {l : List Nat} {x k : Nat}, k < l.length → g l k = x → (∀ j, j < k → g l j ≠ x) → l.idxOf x = k
  | [], x, k, h, _, _ => by simp at h
  | a :: l, x, 0, _, h, _ => by
    have : a = x := h
    rw [this, List.idxOf_cons_self]
  | a :: l, x, k + 1, h1, h2, h3 => by
    have ne : a ≠ x := h3 0 (by omega)
    rw [List.idxOf_cons, beq_false_of_ne ne, cond_false, idx_of (l := l) (k := k) (by simpa using h1) (by rw [← g_succ a]; exact h2) fun j hj => by rw [← g_succ a]; exact h3 (j + 1) (by omega)]
theorem ext_g {l m : List Nat} (h : l.length = m.length) (e : ∀ i, i < l.length → g l i = g m i) : l = m := by
  refine List.ext_getElem? fun i => ?_
  by_cases hi : i < l.length
  · rw [g_lt hi, g_lt (by omega), e i hi]
  · rw [List.getElem?_eq_none (by omega), List.getElem?_eq_none (by omega)]
theorem g_map {f : Nat → Nat} (hf : f 0 = 0) (l : List Nat) (i : Nat) : g (l.map f) i = f (g l i) := by
  by_cases h : i < l.length
  · show (l.map f).getD i 0 = _
    rw [List.getD_eq_getElem?_getD, List.getElem?_map, g_lt h]
    rfl
  · rw [g_ge (by rw [List.length_map]; omega), g_ge (by omega), hf]
theorem g_rev {l : List Nat} {i : Nat} (h : i < l.length) : g l.reverse i = g l (l.length - 1 - i) := by
  show l.reverse.getD i 0 = l.getD _ 0
  rw [List.getD_eq_getElem?_getD, List.getElem?_reverse h, List.getD_eq_getElem?_getD]
theorem g_take {l : List Nat} {k i : Nat} (h : i < k) : g (l.take k) i = g l i := by
  show (l.take k).getD i 0 = l.getD i 0
  rw [List.getD_eq_getElem?_getD, List.getD_eq_getElem?_getD, List.getElem?_take, if_pos h]
theorem g_drop (l : List Nat) (k i : Nat) : g (l.drop k) i = g l (k + i) := by
  show (l.drop k).getD i 0 = l.getD (k + i) 0
  rw [List.getD_eq_getElem?_getD, List.getD_eq_getElem?_getD, List.getElem?_drop]
/-- the marks of the first rows -/
theorem filter_pre {e : Nat → Nat → Ent} {n : Nat} (hF : ∀ r b, r < n → b < 2 → Fine n (e r b)) : ∀ r, r ≤ n → (pre e rowM r).filter (fun s => s == 3 || s == 4) = List.replicate r 3
  | 0, _ => rfl
  | r + 1, h => by
    have nil : (rowL e r).filter (fun s => s == 3 || s == 4) = [] := List.filter_eq_nil_iff.mpr fun x hx q => by
      have h5 : 5 ≤ x := by
        rcases List.mem_append.mp hx with h | h
        · exact (ent_mem (hF r 0 (by omega) (by decide)) x h).1
        · exact (ent_mem (hF r 1 (by omega) (by decide)) x h).1
      rw [Bool.or_eq_true, beq_iff_eq, beq_iff_eq] at q
      omega
    show (pre e rowM r ++ 3 :: rowL e r).filter _ = _
    rw [List.filter_append, filter_pre hF r (by omega), List.filter_cons_of_pos (by decide), nil, List.replicate_succ']
theorem g_pre_pre {e : Nat → Nat → Ent} {mk : Nat → Nat} {q j : Nat} (hj : j < off e q) : ∀ {n : Nat}, q ≤ n → g (pre e mk n) j = g (pre e mk q) j
  | 0, h => by
    rw [show q = 0 by omega]
  | n + 1, h => by
    by_cases h2 : q = n + 1
    · rw [h2]
    · show g (pre e mk n ++ mk n :: rowL e n) j = _
      rw [g_app_l (by rw [len_pre]; exact Nat.lt_of_lt_of_le hj (off_le (by omega))), g_pre_pre hj (by omega)]
theorem pre_mk {e : Nat → Nat → Ent} {q : Nat} : ∀ {r : Nat}, r ≤ q → pre e (fun r => if r = q then 4 else 3) r = pre e rowM r
  | 0, _ => rfl
  | r + 1, h => by
    show pre e _ r ++ (if r = q then 4 else 3) :: rowL e r = pre e rowM r ++ 3 :: rowL e r
    rw [pre_mk (by omega), if_neg (by omega)]
theorem idx_app {A B : List Nat} {x : Nat} (h : x ∉ A) : (A ++ x :: B).idxOf x = A.length := by
  refine idx_of (by rw [List.length_append, List.length_cons]; omega) ?_ fun j hj => ?_
  · have := g_app_r (l := A) (m := x :: B) (i := 0)
    exact this
  · rw [g_app_l hj]
    intro q
    exact h (q ▸ g_mem hj)
/-- a configuration over the tape of a picture is read back -/
theorem rb_eq {n : Nat} {M : Tab} {num : Q → Nat} {a : Int} {t : T} {z : Cfg} {q h : Nat} {l r : List Nat} (O : MOk n M) (hq : q < n) (R : Rep num t z) (eS : t.S = signsAt a (codeL n (entM M) q)) (hD : On t.D a l h r) (D2 : ∀ i, t.D i < 2) (cl : Can l) (cr : Can r) :
    rb z = ⟨q, l, h, r⟩ ∧ ((cellsOf z).map (· / 2)).idxOf 1 < (cellsOf z).length ∧ (((cellsOf z).map (· / 2)).filter fun s => s == 3 || s == 4).idxOf 4 < (((cellsOf z).map (· / 2)).filter fun s => s == 3 || s == 4).length := by
  have Cd := base_code (a := a) O.pos (ent_fine O)
  have o1 : 1 ≤ off (entM M) q := off_le (e := entM M) (Nat.zero_le q)
  have oq : off (entM M) q < off (entM M) n := off_lt hq
  have lenC : (cellsOf z).length = z.l.length + 1 + z.r.length := by
    unfold cellsOf
    rw [List.length_append, List.length_append, List.length_reverse]
    rfl
  -- the cells are the tape from lo on
  have win : ∀ i : Nat, g (cellsOf z) i = tape t (t.p - z.l.length + i) := fun i => by
    unfold cellsOf
    by_cases h1 : i < z.l.length
    · rw [List.append_assoc, g_app_l (by rw [List.length_reverse]; exact h1), g_rev h1, ← R.on.left]
      congr 1
      omega
    · by_cases h2 : i = z.l.length
      · rw [h2, g_app_l (by rw [List.length_append, List.length_reverse]; show _ < _ + 1; omega)]
        have e := g_app_r (l := z.l.reverse) (m := [z.h]) (i := 0)
        rw [List.length_reverse] at e
        rw [show z.l.length + 0 = z.l.length by rfl] at e
        rw [e, show t.p - (z.l.length : Int) + (z.l.length : Nat) = t.p by omega, R.on.here]
        rfl
      · have e := g_app_r (l := z.l.reverse ++ [z.h]) (m := z.r) (i := i - z.l.length - 1)
        have e2 : (z.l.reverse ++ [z.h]).length + (i - z.l.length - 1) = i := by
          rw [List.length_append, List.length_reverse]
          show z.l.length + 1 + _ = i
          omega
        rw [e2] at e
        rw [e, ← R.on.right]
        congr 1
        omega
  have below : ∀ j : Int, j < t.p - z.l.length → tape t j = 0 := fun j hj => by
    have e := R.on.left (t.p - 1 - j).toNat
    rw [show t.p - 1 - ((t.p - 1 - j).toNat : Int) = j by omega] at e
    rw [e]
    exact g_ge (by omega)
  have dv : ∀ j, tape t j / 2 = t.S j ∧ tape t j % 2 = t.D j := fun j => by
    have := D2 j
    unfold tape
    omega
  have sg : ∀ i : Nat, g ((cellsOf z).map (· / 2)) i = t.S (t.p - z.l.length + i) := fun i => by
    rw [g_map (f := (· / 2)) rfl, win]
    exact (dv _).1
  have dg : ∀ i : Nat, g ((cellsOf z).map (· % 2)) i = t.D (t.p - z.l.length + i) := fun i => by
    rw [g_map (f := (· % 2)) rfl, win]
    exact (dv _).2
  -- a cell with a sign lies in the window
  have inside : ∀ j, t.S j ≠ 0 → t.p - z.l.length ≤ j ∧ j - (t.p - z.l.length) < (cellsOf z).length := fun j hj => by
    have h0 : tape t j ≠ 0 := fun q => hj (by rw [← (dv j).1, q])
    refine ⟨Int.not_lt.mp fun h1 => h0 (below j h1), ?_⟩
    have h2 : t.p - z.l.length ≤ j := Int.not_lt.mp fun h1 => h0 (below j h1)
    by_cases h3 : (j - (t.p - z.l.length)).toNat < (cellsOf z).length
    · omega
    · have e := win (j - (t.p - z.l.length)).toNat
      rw [g_ge (by omega), show t.p - (z.l.length : Int) + ((j - (t.p - z.l.length)).toNat : Int) = j by omega] at e
      exact absurd e.symm h0
  have Sa : t.S a = 1 := by rw [eS, code_up hq, up_ne (by omega)]; exact Cd.op
  have Sone : ∀ j, t.S j = 1 → j = a := fun j hj => by
    rw [eS, code_up hq] at hj
    by_cases h1 : j = a + off (entM M) q
    · rw [h1, up_same] at hj; omega
    · rw [up_ne h1] at hj
      by_cases h2 : j < a
      · rw [Cd.outl j h2] at hj; omega
      · by_cases h3 : a + off (entM M) n < j
        · rw [Cd.outr j h3] at hj; omega
        · by_cases h4 : j = a + off (entM M) n
          · rw [h4, Cd.cl] at hj; omega
          · by_cases h5 : j = a
            · exact h5
            · have := Cd.inn j (by omega) (by omega)
              omega
  obtain ⟨ia, ib⟩ := inside a (by rw [Sa]; decide)
  have place : ((cellsOf z).map (· / 2)).idxOf 1 = (a - (t.p - z.l.length)).toNat := by
    refine idx_of (by rw [List.length_map]; omega) ?_ fun j hj => ?_
    · rw [sg, show t.p - (z.l.length : Int) + ((a - (t.p - z.l.length)).toNat : Int) = a by omega, Sa]
    · rw [sg]
      intro q
      have := Sone _ q
      omega
  -- the rows
  have Sq : t.S (a + off (entM M) q) = 4 := by rw [eS, code_up hq, up_same]
  obtain ⟨ja, jb⟩ := inside (a + off (entM M) q) (by rw [Sq]; decide)
  have hcut : ((cellsOf z).map (· / 2)).take ((a - (t.p - z.l.length)).toNat + off (entM M) q) = List.replicate (a - (t.p - z.l.length)).toNat 0 ++ pre (entM M) rowM q := by
    refine ext_g ?_ fun i hi => ?_
    · rw [List.length_take, List.length_map, List.length_append, List.length_replicate, len_pre]
      omega
    · rw [List.length_take, List.length_map] at hi
      rw [g_take (by omega), sg]
      by_cases h1 : i < (a - (t.p - z.l.length)).toNat
      · rw [g_app_l (by rw [List.length_replicate]; exact h1), g_rep h1, eS]
        unfold signsAt
        rw [if_pos (by omega)]
      · have e := g_app_r (l := List.replicate (a - (t.p - z.l.length)).toNat 0) (m := pre (entM M) rowM q) (i := i - (a - (t.p - z.l.length)).toNat)
        rw [List.length_replicate, show (a - (t.p - (z.l.length : Int))).toNat + (i - (a - (t.p - (z.l.length : Int))).toNat) = i by omega] at e
        rw [e, eS]
        have e2 := signsAt_at (a := a) (l := codeL n (entM M) q) (i - (a - (t.p - z.l.length)).toNat)
        rw [show a + ((i - (a - (t.p - (z.l.length : Int))).toNat : Nat) : Int) = t.p - z.l.length + i by omega] at e2
        rw [e2]
        show g (pre (entM M) (fun r => if r = q then 4 else 3) n ++ [2]) _ = _
        rw [g_app_l (by rw [len_pre]; omega), g_pre_pre (by omega) (Nat.le_of_lt hq), pre_mk (Nat.le_refl q)]
  have hsplit : (cellsOf z).map (· / 2) = (List.replicate (a - (t.p - z.l.length)).toNat 0 ++ pre (entM M) rowM q) ++ 4 :: ((cellsOf z).map (· / 2)).drop ((a - (t.p - z.l.length)).toNat + off (entM M) q + 1) := by
    have hlt : (a - (t.p - (z.l.length : Int))).toNat + off (entM M) q < ((cellsOf z).map (· / 2)).length := by rw [List.length_map]; omega
    have e1 := (List.take_append_drop ((a - (t.p - z.l.length)).toNat + off (entM M) q) ((cellsOf z).map (· / 2))).symm
    rw [hcut, List.drop_eq_getElem_cons hlt] at e1
    have e2 : ((cellsOf z).map (· / 2))[(a - (t.p - (z.l.length : Int))).toNat + off (entM M) q] = 4 := by
      have e3 := g_lt hlt
      rw [sg, show t.p - (z.l.length : Int) + (((a - (t.p - (z.l.length : Int))).toNat + off (entM M) q : Nat) : Int) = a + off (entM M) q by omega, Sq, List.getElem?_eq_getElem hlt] at e3
      exact Option.some.inj e3
    rw [e2] at e1
    exact e1
  have hrows : (((cellsOf z).map (· / 2)).filter fun s => s == 3 || s == 4) = List.replicate q 3 ++ 4 :: (((cellsOf z).map (· / 2)).drop ((a - (t.p - z.l.length)).toNat + off (entM M) q + 1)).filter fun s => s == 3 || s == 4 := by
    rw [hsplit, List.filter_append, List.filter_append, filter_pre (ent_fine O) q (Nat.le_of_lt hq), List.filter_cons_of_pos (by decide)]
    rw [List.filter_eq_nil_iff.mpr (fun x hx p => by
      rw [List.eq_of_mem_replicate hx] at p
      exact absurd p (by decide)), List.nil_append, ← hsplit]
  have hidx : (((cellsOf z).map (· / 2)).filter fun s => s == 3 || s == 4).idxOf 4 = q := by
    rw [hrows, idx_app (fun hm => absurd (List.eq_of_mem_replicate hm) (by decide)), List.length_replicate]
  refine ⟨?_, by rw [place]; omega, by rw [hidx, hrows, List.length_append, List.length_replicate, List.length_cons]; omega⟩
  unfold rb
  rw [hidx, place]
  have e1 : strip (((cellsOf z).map (· % 2)).take (a - (t.p - z.l.length)).toNat).reverse = l := by
    refine can_uniq (can_strip _) cl fun i => ?_
    rw [g_strip, ← hD.left]
    have hlen : (((cellsOf z).map (· % 2)).take (a - (t.p - (z.l.length : Int))).toNat).length = (a - (t.p - z.l.length)).toNat := by
      rw [List.length_take, List.length_map]; omega
    by_cases h1 : i < (a - (t.p - z.l.length)).toNat
    · rw [g_rev (by rw [hlen]; exact h1), hlen, g_take (by omega), dg]
      congr 1
      omega
    · rw [g_ge (by rw [List.length_reverse, hlen]; omega)]
      have b := below (a - 1 - i) (by omega)
      rw [← (dv _).2, b]
  have e2 : g ((cellsOf z).map (· % 2)) (a - (t.p - z.l.length)).toNat = h := by
    rw [dg, show t.p - (z.l.length : Int) + ((a - (t.p - z.l.length)).toNat : Int) = a by omega, hD.here]
  have e3 : strip (((cellsOf z).map (· % 2)).drop ((a - (t.p - z.l.length)).toNat + 1)) = r := by
    refine can_uniq (can_strip _) cr fun i => ?_
    rw [g_strip, g_drop, dg, ← hD.right]
    congr 1
    omega
  rw [e1, e2, e3]
end UM
/-! The builder of the universal machine as a plain function; what it builds agrees with dl. -/
namespace UM
/-- state, symbol, written, move, next state -/
abbrev Rul := Nat × Nat × Nat × Int × Nat
structure BS where
  nums : List (Q × Nat)
  rules : List Rul
  deriving DecidableEq
def startB : BS := ⟨[(.home, 0)], []⟩
@[irreducible] def stateN (b : BS) (q : Q) : Nat := match b.nums.lookup q with
  | some k => k
  | none => b.nums.length
@[irreducible] def stateB (b : BS) (q : Q) : BS := match b.nums.lookup q with
  | some _ => b
  | none => ⟨b.nums ++ [(q, b.nums.length)], b.rules⟩
@[irreducible] def addB (b : BS) (r : Rul) : BS := ⟨b.nums, b.rules ++ [r]⟩
@[irreducible] def onB (b : BS) (name : Q) (sign written : Nat) (move : Int) (fol : Q) : BS :=
  let h := stateN b name
  let b1 := stateB b name
  let t := stateN b1 fol
  let b2 := stateB b1 fol
  addB (addB b2 (h, 2 * sign, 2 * written, move, t)) (h, 2 * sign + 1, 2 * written + 1, move, t)
@[irreducible] def keepB (b : BS) (name : Q) (signs : List Nat) (move : Int) (fol : Q) : BS := signs.foldl (fun b s => onB b name s s move fol) b
@[irreducible] def others (p : Nat → Bool) : List Nat := (List.range 14).filter p
@[irreducible] def seekB (b : BS) (name : Q) (sign : Nat) (move : Int) (fol : Q) : BS := onB (keepB b name (others fun o => o != sign) move name) name sign sign 1 fol
def mvs : List Nat := [9, 10, 11]
/-- one digit of the first loop -/
@[irreducible] def read1 (home : Nat) (b : BS) (d : Nat) : BS := seekB (addB (stateB b (.find d)) (home, 2 + d, 2 + d, 1, stateN b (.find d))) (.find d) 4 1 (.entry d)
@[irreducible] def read2b (w d : Nat) (b : BS) (s : Nat) : BS := onB b (.move w d) s s (-1) (.write w s d)
@[irreducible] def read2a (w : Nat) (b : BS) (d : Nat) : BS := mvs.foldl (read2b w d) b
@[irreducible] def read2 (b : BS) (w : Nat) : BS := [0, 1].foldl (read2a w) (onB (onB b (.entry 0) (7 + w) (7 + w) 1 (.move w 0)) .second (7 + w) (7 + w) 1 (.move w 1))
@[irreducible] def readingB (b : BS) : BS := [0, 1].foldl read2 (seekB ([0, 1].foldl (read1 (stateN b .home)) (stateB b .home)) (.entry 1) 12 1 .second)
@[irreducible] def write3 (w s d t : Nat) (b : BS) (old : Nat) : BS := addB (stateB b (.write w s d)) (stateN b (.write w s d), 2 + old, 2 + w, 1, t)
@[irreducible] def write2 (w s : Nat) (b : BS) (d : Nat) : BS :=
  let b1 := keepB b (.write w s d) ((List.range 12).map (2 + ·)) (-1) (.write w s d)
  [0, 1].foldl (write3 w s d (stateN b1 (.again s d))) (stateB b1 (.again s d))
@[irreducible] def write1 (w : Nat) (b : BS) (s : Nat) : BS := [0, 1].foldl (write2 w s) b
@[irreducible] def write0 (b : BS) (w : Nat) : BS := mvs.foldl (write1 w) b
@[irreducible] def writingB (b : BS) : BS := [0, 1].foldl write0 b
@[irreducible] def choose1 (s : Nat) (b : BS) (d : Nat) : BS := seekB b (.again s d) 4 1 (.skip s d)
@[irreducible] def choosingB (b : BS) (s : Nat) : BS :=
  let b := [0, 1].foldl (choose1 s) b
  let b := seekB b (.skip s 1) 12 1 (.skip s 0)
  let b := keepB b (.skip s 0) [7, 8] 1 (.over s)
  let b := keepB b (.over s) mvs 1 (.units s)
  let b := onB b (.units s) 5 6 1 (.units s)
  let b := onB b (.units s) 12 12 (-1) (.unmark s)
  let b := keepB b (.unmark s) (others fun o => o != 4) (-1) (.unmark s)
  let b := onB b (.unmark s) 4 3 (-1) (.left s)
  let b := seekB b (.left s) 1 (-1) (.first s)
  let b := onB b (.first s) 3 4 1 (.seek s)
  let b := keepB b (.seek s) (others fun o => !(o == 6 || o == 2)) 1 (.seek s)
  let b := onB b (.seek s) 6 5 (-1) (.rewind s)
  let b := seekB b (.rewind s) 1 (-1) (.active s)
  let b := keepB b (.active s) (others fun o => o != 4) 1 (.active s)
  let b := onB b (.active s) 4 3 1 (.next s)
  let b := keepB b (.next s) (others fun o => o != 3) 1 (.next s)
  let b := onB b (.next s) 3 4 (-1) (.restart s)
  seekB b (.restart s) 1 (-1) (.seek s)
@[irreducible] def move2 (c : Nat) (b : BS) (s : Nat) : BS :=
  let b1 := if c = 2 then onB b (.right c) s c (-1) .homeward else onB b (.right c) s c 1 (.right (max 1 s))
  if c = 1 then onB b1 (.carry c) s c 0 .home else onB b1 (.carry c) s c (-1) (.carry (max 1 s))
@[irreducible] def move1 (b : BS) (c : Nat) : BS := (List.range 14).foldl (move2 c) b
@[irreducible] def movingB (b : BS) : BS :=
  let os := others fun o => o != 1
  let b := onB b (.seek 10) 2 2 (-1) .homeward
  let b := keepB b .homeward os (-1) .homeward
  let b := onB b .homeward 1 1 0 .home
  let b := onB b (.seek 11) 2 2 (-1) .begin_
  let b := keepB b .begin_ os (-1) .begin_
  let b := onB b .begin_ 1 0 1 (.right 1)
  let b := onB b (.seek 9) 2 0 (-1) (.carry 2)
  ((List.range 13).map (1 + ·)).foldl move1 b
@[irreducible] def uniB : BS := movingB (mvs.foldl choosingB (writingB (readingB startB)))
/-! ### the numbers of the states -/
@[irreducible] def num : Q → Nat
  | .home => 0
  | .find d => 1 + 2 * d
  | .entry d => 2 + 2 * d
  | .second => 5
  | .move w d => 6 + 8 * w + d
  | .write w s d => 8 + 8 * w + (s - 9) + 3 * d
  | .again s d => 22 + 2 * (s - 9) + d
  | .skip s d => 28 + 12 * (s - 9) + d
  | .over s => 30 + 12 * (s - 9)
  | .units s => 31 + 12 * (s - 9)
  | .unmark s => 32 + 12 * (s - 9)
  | .left s => 33 + 12 * (s - 9)
  | .first s => 34 + 12 * (s - 9)
  | .seek s => 35 + 12 * (s - 9)
  | .rewind s => 36 + 12 * (s - 9)
  | .active s => 37 + 12 * (s - 9)
  | .next s => 38 + 12 * (s - 9)
  | .restart s => 39 + 12 * (s - 9)
  | .homeward => 64
  | .begin_ => 65
  | .right c => if c = 1 then 66 else 67 + c
  | .carry c => if c = 2 then 67 else if c = 1 then 68 else 78 + c
def LN : List Q := [.home, .find 0, .entry 0, .find 1, .entry 1, .second, .move 0 0, .move 0 1, .write 0 9 0, .write 0 10 0, .write 0 11 0, .write 0 9 1, .write 0 10 1, .write 0 11 1, .move 1 0, .move 1 1, .write 1 9 0, .write 1 10 0, .write 1 11 0, .write 1 9 1, .write 1 10 1, .write 1 11 1, .again 9 0, .again 9 1, .again 10 0, .again 10 1, .again 11 0, .again 11 1, .skip 9 0, .skip 9 1, .over 9, .units 9, .unmark 9, .left 9, .first 9, .seek 9, .rewind 9, .active 9, .next 9, .restart 9, .skip 10 0, .skip 10 1, .over 10, .units 10, .unmark 10, .left 10, .first 10, .seek 10, .rewind 10, .active 10, .next 10, .restart 10, .skip 11 0, .skip 11 1, .over 11, .units 11, .unmark 11, .left 11, .first 11, .seek 11, .rewind 11, .active 11, .next 11, .restart 11, .homeward, .begin_, .right 1, .carry 2, .carry 1, .right 2, .right 3, .right 4, .right 5, .right 6, .right 7, .right 8, .right 9, .right 10, .right 11, .right 12, .right 13, .carry 3, .carry 4, .carry 5, .carry 6, .carry 7, .carry 8, .carry 9, .carry 10, .carry 11, .carry 12, .carry 13]
def val (q : Q) : Bool := LN[num q]? == some q
theorem num_inj {q q' : Q} (h : val q = true) (h' : val q' = true) (e : num q = num q') : q = q' := by
  have h1 : LN[num q]? = some q := eq_of_beq h
  have h2 : LN[num q']? = some q' := eq_of_beq h'
  rw [e, h2] at h1
  exact (Option.some.inj h1).symm
/-! ### the same with the numbers known, the rules from the last -/
structure MS where
  k : Nat
  R : List Rul
  ok : Bool
@[irreducible] def stM (m : MS) (q : Q) : MS := ⟨max m.k (num q + 1), m.R, m.ok && (val q && decide (num q ≤ m.k))⟩
@[irreducible] def adM (m : MS) (r : Rul) : MS := ⟨m.k, r :: m.R, m.ok⟩
@[irreducible] def onM (m : MS) (name : Q) (sign written : Nat) (mv : Int) (fol : Q) : MS :=
  adM (adM (stM (stM m name) fol) (num name, 2 * sign, 2 * written, mv, num fol)) (num name, 2 * sign + 1, 2 * written + 1, mv, num fol)
@[irreducible] def keepM (b : MS) (name : Q) (signs : List Nat) (move : Int) (fol : Q) : MS := signs.foldl (fun b s => onM b name s s move fol) b
@[irreducible] def seekM (b : MS) (name : Q) (sign : Nat) (move : Int) (fol : Q) : MS := onM (keepM b name (others fun o => o != sign) move name) name sign sign 1 fol
@[irreducible] def read1M (b : MS) (d : Nat) : MS := seekM (adM (stM b (.find d)) (num .home, 2 + d, 2 + d, 1, num (.find d))) (.find d) 4 1 (.entry d)
@[irreducible] def read2bM (w d : Nat) (b : MS) (s : Nat) : MS := onM b (.move w d) s s (-1) (.write w s d)
@[irreducible] def read2aM (w : Nat) (b : MS) (d : Nat) : MS := mvs.foldl (read2bM w d) b
@[irreducible] def read2M (b : MS) (w : Nat) : MS := [0, 1].foldl (read2aM w) (onM (onM b (.entry 0) (7 + w) (7 + w) 1 (.move w 0)) .second (7 + w) (7 + w) 1 (.move w 1))
@[irreducible] def readingM (b : MS) : MS := [0, 1].foldl read2M (seekM ([0, 1].foldl read1M (stM b .home)) (.entry 1) 12 1 .second)
@[irreducible] def write3M (w s d : Nat) (b : MS) (old : Nat) : MS := adM (stM b (.write w s d)) (num (.write w s d), 2 + old, 2 + w, 1, num (.again s d))
@[irreducible] def write2M (w s : Nat) (b : MS) (d : Nat) : MS := [0, 1].foldl (write3M w s d) (stM (keepM b (.write w s d) ((List.range 12).map (2 + ·)) (-1) (.write w s d)) (.again s d))
@[irreducible] def write1M (w : Nat) (b : MS) (s : Nat) : MS := [0, 1].foldl (write2M w s) b
@[irreducible] def write0M (b : MS) (w : Nat) : MS := mvs.foldl (write1M w) b
@[irreducible] def writingM (b : MS) : MS := [0, 1].foldl write0M b
@[irreducible] def choose1M (s : Nat) (b : MS) (d : Nat) : MS := seekM b (.again s d) 4 1 (.skip s d)
@[irreducible] def choosingM (b : MS) (s : Nat) : MS :=
  let b := [0, 1].foldl (choose1M s) b
  let b := seekM b (.skip s 1) 12 1 (.skip s 0)
  let b := keepM b (.skip s 0) [7, 8] 1 (.over s)
  let b := keepM b (.over s) mvs 1 (.units s)
  let b := onM b (.units s) 5 6 1 (.units s)
  let b := onM b (.units s) 12 12 (-1) (.unmark s)
  let b := keepM b (.unmark s) (others fun o => o != 4) (-1) (.unmark s)
  let b := onM b (.unmark s) 4 3 (-1) (.left s)
  let b := seekM b (.left s) 1 (-1) (.first s)
  let b := onM b (.first s) 3 4 1 (.seek s)
  let b := keepM b (.seek s) (others fun o => !(o == 6 || o == 2)) 1 (.seek s)
  let b := onM b (.seek s) 6 5 (-1) (.rewind s)
  let b := seekM b (.rewind s) 1 (-1) (.active s)
  let b := keepM b (.active s) (others fun o => o != 4) 1 (.active s)
  let b := onM b (.active s) 4 3 1 (.next s)
  let b := keepM b (.next s) (others fun o => o != 3) 1 (.next s)
  let b := onM b (.next s) 3 4 (-1) (.restart s)
  seekM b (.restart s) 1 (-1) (.seek s)
@[irreducible] def move2M (c : Nat) (b : MS) (s : Nat) : MS :=
  let b1 := if c = 2 then onM b (.right c) s c (-1) .homeward else onM b (.right c) s c 1 (.right (max 1 s))
  if c = 1 then onM b1 (.carry c) s c 0 .home else onM b1 (.carry c) s c (-1) (.carry (max 1 s))
@[irreducible] def move1M (b : MS) (c : Nat) : MS := (List.range 14).foldl (move2M c) b
@[irreducible] def movingM (b : MS) : MS :=
  let os := others fun o => o != 1
  let b := onM b (.seek 10) 2 2 (-1) .homeward
  let b := keepM b .homeward os (-1) .homeward
  let b := onM b .homeward 1 1 0 .home
  let b := onM b (.seek 11) 2 2 (-1) .begin_
  let b := keepM b .begin_ os (-1) .begin_
  let b := onM b .begin_ 1 0 1 (.right 1)
  let b := onM b (.seek 9) 2 0 (-1) (.carry 2)
  ((List.range 13).map (1 + ·)).foldl move1M b
@[irreducible] def uniM : MS := movingM (mvs.foldl choosingM (writingM (readingM ⟨1, [], true⟩)))
theorem uniM_ok : (uniM.ok && uniM.k == 92) = true := by decide +kernel
/-! ### what is built -/
def tabOf (rs : List Rul) : Tab := fun s a => (rs.find? fun r => r.1 == s && r.2.1 == a).map (·.2.2)
def chk1 (q : Q) (rs : List Rul) : Bool := (List.range 14).all fun s => (List.range 2).all fun d =>
  decide ((rs.find? fun r => r.2.1 == 2 * s + d).map (·.2.2) = (dl q s d).map fun z => (2 * z.1 + z.2.1, z.2.2.1, num z.2.2.2))
def chk2 (q : Q) : Bool := (List.range 14).all fun s => (List.range 2).all fun d => match dl q s d with
  | none => true
  | some z => decide (z.1 < 14) && (decide (z.2.1 < 2) && (val z.2.2.2 && (z.2.2.1 == 0 || z.2.2.1 == 1 || z.2.2.1 == -1)))
def nodupB : List Nat → Bool
  | [] => true
  | a :: l => !l.contains a && nodupB l
theorem chkA : (LN.all fun q => val q && chk1 q (uniM.R.filter fun r => r.1 == num q)) = true := by decide +kernel
theorem chkB : (LN.all fun q => chk2 q && (num q != 0 || q == .home)) = true := by decide +kernel
theorem chkC : (uniM.R.all fun r => decide (r.1 < 92) && (decide (r.2.1 < 28) && (decide (r.2.2.1 < 28) && ((r.2.2.2.1 == 0 || r.2.2.2.1 == 1 || r.2.2.2.1 == -1) && decide (r.2.2.2.2 < 92))))) = true := by decide +kernel
theorem chkD : ((List.range 92).all fun s => nodupB ((uniM.R.filter fun r => r.1 == s).map (·.2.1))) = true := by decide +kernel
theorem chkL : uniM.R.length = 2102 := by decide +kernel
end UM
/-! The builder's function against the one with known numbers; the universal machine's table agrees with dl. -/
namespace UM
structure Nums (b : BS) (m : MS) : Prop where
  look : ∀ q, val q = true → b.nums.lookup q = if num q < m.k then some (num q) else none
  len : b.nums.length = m.k
  rules : b.rules = m.R.reverse
def Sim (b : BS) (m : MS) : Prop := m.ok = true → Nums b m
theorem st_ok {m : MS} {q : Q} (h : (stM m q).ok = true) : m.ok = true ∧ val q = true ∧ num q ≤ m.k := by
  unfold stM at h
  have h2 : (m.ok && (val q && decide (num q ≤ m.k))) = true := h
  rw [Bool.and_eq_true, Bool.and_eq_true, decide_eq_true_eq] at h2
  exact h2
theorem look_snoc {l : List (Q × Nat)} {q q' : Q} {k : Nat} : (l ++ [(q, k)]).lookup q' = (l.lookup q').or (if q' = q then some k else none) := by
  induction l with
  | nil =>
    show ([(q, k)] : List (Q × Nat)).lookup q' = _
    rw [List.lookup_cons]
    by_cases h : q' = q
    · rw [if_pos h, h, beq_self_eq_true]
      rfl
    · rw [if_neg h, beq_false_of_ne h]
      rfl
  | cons a l ih =>
    rw [List.cons_append, List.lookup_cons, List.lookup_cons]
    cases h : (q' == a.1) with
    | true => rfl
    | false => exact ih
theorem sim_st {b : BS} {m : MS} {q : Q} (h : Sim b m) : Sim (stateB b q) (stM m q) := fun ok => by
  obtain ⟨o1, o2, o3⟩ := st_ok ok
  obtain ⟨n1, n2, n3⟩ := h o1
  unfold stateB stM
  by_cases hk : num q < m.k
  · rw [n1 q o2, if_pos hk]
    have e : max m.k (num q + 1) = m.k := by omega
    refine ⟨fun q' v => ?_, ?_, n3⟩
    · show _ = if num q' < max m.k (num q + 1) then _ else _
      rw [e]
      exact n1 q' v
    · show _ = max m.k (num q + 1)
      rw [e]
      exact n2
  · rw [n1 q o2, if_neg hk]
    have e : max m.k (num q + 1) = m.k + 1 := by omega
    have eq : num q = m.k := by omega
    refine ⟨fun q' v => ?_, ?_, n3⟩
    · show (b.nums ++ [(q, b.nums.length)]).lookup q' = if num q' < max m.k (num q + 1) then _ else _
      rw [e, look_snoc, n1 q' v, n2]
      by_cases h1 : num q' < m.k
      · rw [if_pos h1, Option.some_or, if_pos (by omega)]
      · rw [if_neg h1]
        by_cases h2 : q' = q
        · rw [if_pos h2, h2, if_pos (by omega), eq]
          rfl
        · rw [if_neg h2, if_neg]
          · rfl
          · intro h3
            exact h2 (num_inj v o2 (by omega))
    · show (b.nums ++ [(q, b.nums.length)]).length = max m.k (num q + 1)
      rw [e, List.length_append, n2]
      rfl
theorem num_st {b : BS} {m : MS} {q : Q} (h : Sim b m) (ok : (stM m q).ok = true) : stateN b q = num q := by
  obtain ⟨o1, o2, o3⟩ := st_ok ok
  obtain ⟨n1, n2, _⟩ := h o1
  unfold stateN
  rw [n1 q o2]
  by_cases hk : num q < m.k
  · rw [if_pos hk]
  · rw [if_neg hk]
    show b.nums.length = num q
    omega
theorem sim_add {b : BS} {m : MS} {r r' : Rul} (h : Sim b m) (e : m.ok = true → r = r') : Sim (addB b r) (adM m r') := fun ok => by
  unfold adM at ok ⊢
  unfold addB
  obtain ⟨n1, n2, n3⟩ := h ok
  refine ⟨n1, n2, ?_⟩
  show b.rules ++ [r] = (r' :: m.R).reverse
  rw [List.reverse_cons, n3, e ok]
theorem sim_on {b : BS} {m : MS} {n f : Q} {s w : Nat} {mv : Int} (h : Sim b m) : Sim (onB b n s w mv f) (onM m n s w mv f) := by
  have h1 := sim_st (q := n) h
  have h2 := sim_st (q := f) h1
  have e1 : (stM (stM m n) f).ok = true → stateN b n = num n ∧ stateN (stateB b n) f = num f := fun ok => ⟨num_st h (st_ok ok).1, num_st h1 ok⟩
  unfold onB onM
  refine sim_add (sim_add h2 fun ok => ?_) fun ok => ?_
  · rw [(e1 ok).1, (e1 ok).2]
  · unfold adM at ok
    have := e1 ok
    rw [this.1, this.2]
theorem sim_fold {α : Type} {f : BS → α → BS} {f' : MS → α → MS} (hf : ∀ b m x, Sim b m → Sim (f b x) (f' m x)) : ∀ (l : List α) {b : BS} {m : MS}, Sim b m → Sim (l.foldl f b) (l.foldl f' m)
  | [], _, _, h => h
  | x :: l, _, _, h => sim_fold hf l (hf _ _ x h)
theorem sim_keep {b : BS} {m : MS} {n f : Q} {ss : List Nat} {mv : Int} (h : Sim b m) : Sim (keepB b n ss mv f) (keepM m n ss mv f) := by
  unfold keepB keepM
  exact sim_fold (f := fun b s => onB b n s s mv f) (f' := fun b s => onM b n s s mv f) (fun _ _ _ h => sim_on h) ss h
theorem sim_seek {b : BS} {m : MS} {n f : Q} {s : Nat} {mv : Int} (h : Sim b m) : Sim (seekB b n s mv f) (seekM m n s mv f) := by
  unfold seekB seekM
  exact sim_on (sim_keep h)
theorem sim_read2 {b : BS} {m : MS} {w : Nat} (h : Sim b m) : Sim (read2 b w) (read2M m w) := by
  unfold read2 read2M
  refine sim_fold (f := read2a w) (f' := read2aM w) (fun b m d h => ?_) [0, 1] (sim_on (sim_on h))
  unfold read2a read2aM
  refine sim_fold (f := read2b w d) (f' := read2bM w d) (fun b m s h => ?_) mvs h
  unfold read2b read2bM
  exact sim_on h
theorem sim_reading : Sim (readingB startB) (readingM ⟨1, [], true⟩) := by
  have s0 : Sim startB ⟨1, [], true⟩ := fun _ => ⟨fun q v => by
    show ([(Q.home, 0)] : List (Q × Nat)).lookup q = if num q < 1 then some (num q) else none
    rw [List.lookup_cons]
    by_cases h : q = .home
    · rw [h, beq_self_eq_true]
      decide +kernel
    · rw [beq_false_of_ne h, if_neg]
      · rfl
      · intro h1
        exact h (num_inj v (by decide +kernel) ((by omega : num q = 0).trans (by decide +kernel))), rfl, rfl⟩
  have e0 : stateN startB .home = num .home := by decide +kernel
  have s1 := sim_st (q := .home) s0
  unfold readingB readingM
  rw [e0]
  refine sim_fold (f := read2) (f' := read2M) (fun _ _ _ h => sim_read2 h) [0, 1] (sim_seek ?_)
  refine sim_fold (f := read1 (num .home)) (f' := read1M) (fun b m d h => ?_) [0, 1] s1
  unfold read1 read1M
  exact sim_seek (sim_add (sim_st h) fun ok => by rw [num_st h ok])
theorem sim_write2 {b : BS} {m : MS} {w s d : Nat} (h : Sim b m) : Sim (write2 w s b d) (write2M w s m d) := by
  have h1 := sim_keep (n := .write w s d) (f := .write w s d) (ss := (List.range 12).map (2 + ·)) (mv := -1) h
  have h2 := sim_st (q := .again s d) h1
  -- each of the two rules leans on the number of the state again
  have key : ∀ (t : Nat) (l : List Nat) (b' : BS) (m' : MS), (m'.ok = true → t = num (.again s d)) → Sim b' m' → Sim (l.foldl (write3 w s d t) b') (l.foldl (write3M w s d) m') := by
    intro t l
    induction l with
    | nil => intro b' m' _ h'; exact h'
    | cons x l ih =>
      intro b' m' e h'
      have mono : (write3M w s d m' x).ok = true → (stM m' (.write w s d)).ok = true := fun ok => by
        unfold write3M adM at ok
        exact ok
      refine ih _ _ (fun ok => e (st_ok (mono ok)).1) ?_
      unfold write3 write3M
      refine sim_add (sim_st h') fun ok => ?_
      rw [num_st h' ok, e (st_ok ok).1]
  unfold write2 write2M
  exact key _ [0, 1] _ _ (fun ok => num_st h1 ok) h2
theorem sim_choosing {b : BS} {m : MS} {s : Nat} (h : Sim b m) : Sim (choosingB b s) (choosingM m s) := by
  unfold choosingB choosingM
  refine sim_seek (sim_on (sim_keep (sim_on (sim_keep (sim_seek (sim_on (sim_keep (sim_on (sim_seek (sim_on (sim_keep (sim_on (sim_on (sim_keep (sim_keep (sim_seek ?_))))))))))))))))
  refine sim_fold (f := choose1 s) (f' := choose1M s) (fun b m d h => ?_) [0, 1] h
  unfold choose1 choose1M
  exact sim_seek h
theorem sim_move2 {c : Nat} {b : BS} {m : MS} {s : Nat} (h : Sim b m) : Sim (move2 c b s) (move2M c m s) := by
  have h1 : Sim (if c = 2 then onB b (.right c) s c (-1) .homeward else onB b (.right c) s c 1 (.right (max 1 s))) (if c = 2 then onM m (.right c) s c (-1) .homeward else onM m (.right c) s c 1 (.right (max 1 s))) := by
    split
    · exact sim_on h
    · exact sim_on h
  unfold move2 move2M
  dsimp only
  by_cases hc : c = 1
  · rw [if_pos hc, if_pos hc]
    exact sim_on h1
  · rw [if_neg hc, if_neg hc]
    exact sim_on h1
theorem sim_moving {b : BS} {m : MS} (h : Sim b m) : Sim (movingB b) (movingM m) := by
  unfold movingB movingM
  refine sim_fold (f := move1) (f' := move1M) (fun b m c h => ?_) _ (sim_on (sim_on (sim_keep (sim_on (sim_on (sim_keep (sim_on h)))))))
  unfold move1 move1M
  exact sim_fold (f := move2 c) (f' := move2M c) (fun b m s h => sim_move2 h) (List.range 14) h
theorem sim_uni : Sim uniB uniM := by
  unfold uniB uniM
  refine sim_moving (sim_fold (f := choosingB) (f' := choosingM) (fun b m s h => sim_choosing h) mvs ?_)
  unfold writingB writingM
  refine sim_fold (f := write0) (f' := write0M) (fun b m w h => ?_) [0, 1] sim_reading
  unfold write0 write0M
  refine sim_fold (f := write1 w) (f' := write1M w) (fun b m s h => ?_) mvs h
  unfold write1 write1M
  exact sim_fold (f := write2 w s) (f' := write2M w s) (fun b m d h => sim_write2 h) [0, 1] h
theorem uni_nums : Nums uniB uniM := sim_uni (by
  have h := uniM_ok
  rw [Bool.and_eq_true] at h
  exact h.1)
theorem uni_len : uniB.nums.length = 92 := by
  have h := uniM_ok
  rw [Bool.and_eq_true, beq_iff_eq] at h
  rw [uni_nums.len, h.2]
/-! ### the table -/
def key (r : Rul) : Nat × Nat := (r.1, r.2.1)
theorem nodup_of {l : List Nat} (h : nodupB l = true) : l.Nodup := by
  induction l with
  | nil => exact List.nodup_nil
  | cons a l ih =>
    have h2 : (!l.contains a && nodupB l) = true := h
    rw [Bool.and_eq_true, Bool.not_eq_true'] at h2
    rw [List.nodup_cons]
    refine ⟨fun hm => ?_, ih h2.2⟩
    have := List.contains_iff_mem.mpr hm
    rw [h2.1] at this
    cases this
theorem nodup_groups : ∀ (l : List Rul), (∀ s, ((l.filter fun r => r.1 == s).map (·.2.1)).Nodup) → (l.map key).Nodup
  | [], _ => List.nodup_nil
  | a :: l, h => by
    rw [List.map_cons, List.nodup_cons]
    refine ⟨fun hm => ?_, nodup_groups l fun s => ?_⟩
    · obtain ⟨r, hr, e⟩ := List.mem_map.mp hm
      obtain ⟨e1, e2⟩ := Prod.mk.inj e
      have ha := h a.1
      rw [List.filter_cons_of_pos (by rw [beq_self_eq_true]), List.map_cons, List.nodup_cons] at ha
      refine ha.1 (List.mem_map.mpr ⟨r, List.mem_filter.mpr ⟨hr, beq_iff_eq.mpr e1⟩, e2⟩)
    · have ha := h s
      by_cases hs : (a.1 == s) = true
      · rw [List.filter_cons_of_pos (p := fun r : Rul => r.1 == s) hs, List.map_cons, List.nodup_cons] at ha
        exact ha.2
      · rw [List.filter_cons_of_neg (p := fun r : Rul => r.1 == s) hs] at ha
        exact ha
theorem rule_ok {r : Rul} (h : r ∈ uniM.R) : r.1 < 92 ∧ r.2.1 < 28 ∧ r.2.2.1 < 28 ∧ (r.2.2.2.1 = 0 ∨ r.2.2.2.1 = 1 ∨ r.2.2.2.1 = -1) ∧ r.2.2.2.2 < 92 := by
  have q := List.all_eq_true.mp chkC r h
  rw [Bool.and_eq_true, Bool.and_eq_true, Bool.and_eq_true, Bool.and_eq_true, decide_eq_true_eq, decide_eq_true_eq, decide_eq_true_eq, decide_eq_true_eq, Bool.or_eq_true, Bool.or_eq_true, beq_iff_eq, beq_iff_eq, beq_iff_eq] at q
  obtain ⟨q1, q2, q3, q4, q5⟩ := q
  refine ⟨q1, q2, q3, ?_, q5⟩
  rcases q4 with (q4 | q4) | q4
  · exact .inl q4
  · exact .inr (.inl q4)
  · exact .inr (.inr q4)
theorem keys_nodup : (uniM.R.map key).Nodup := by
  refine nodup_groups _ fun s => ?_
  by_cases hs : s < 92
  · exact nodup_of (List.all_eq_true.mp chkD s (List.mem_range.mpr hs))
  · rw [List.filter_eq_nil_iff.mpr fun r hr e => hs (by rw [← beq_iff_eq.mp e]; exact (rule_ok hr).1)]
    exact List.nodup_nil
theorem rules_nodup : (uniB.rules.map key).Nodup := by
  rw [uni_nums.rules, List.map_reverse]
  exact (List.reverse_perm _).nodup_iff.mpr keys_nodup
theorem tab_mem {l : List Rul} (h : (l.map key).Nodup) {s a : Nat} {v : Nat × Int × Nat} : tabOf l s a = some v ↔ (s, a, v) ∈ l := by
  constructor
  · intro e
    unfold tabOf at e
    obtain ⟨r, hr, ev⟩ := Option.map_eq_some_iff.mp e
    have hm := List.mem_of_find?_eq_some hr
    have hp := List.find?_some hr
    rw [Bool.and_eq_true, beq_iff_eq, beq_iff_eq] at hp
    obtain ⟨r1, r2, r3⟩ := r
    obtain ⟨h1, h2⟩ := hp
    dsimp only at h1 h2 ev
    rw [← h1, ← h2, ← ev]
    exact hm
  · intro hm
    unfold tabOf
    induction l with
    | nil => cases hm
    | cons r l ih =>
      rw [List.map_cons, List.nodup_cons] at h
      rcases List.mem_cons.mp hm with e | hm
      · rw [← e, List.find?_cons_of_pos (by rw [Bool.and_eq_true, beq_iff_eq, beq_iff_eq]; exact ⟨rfl, rfl⟩)]
        rfl
      · rw [List.find?_cons_of_neg, ih h.2 hm]
        intro q
        rw [Bool.and_eq_true, beq_iff_eq, beq_iff_eq] at q
        exact h.1 (List.mem_map.mpr ⟨_, hm, by unfold key; rw [q.1, q.2]⟩)
theorem tab_perm {l m : List Rul} (h : (l.map key).Nodup) (p : l.Perm m) : tabOf l = tabOf m := by
  have h2 : (m.map key).Nodup := (p.map key).nodup_iff.mp h
  funext s a
  cases e : tabOf l s a with
  | some v =>
    exact ((tab_mem h2).mpr (p.mem_iff.mp ((tab_mem h).mp e))).symm
  | none =>
    cases e2 : tabOf m s a with
    | none => rfl
    | some v =>
      rw [(tab_mem h).mpr (p.mem_iff.mpr ((tab_mem h2).mp e2))] at e
      cases e
def uniT : Tab := tabOf uniB.rules
theorem uniT_eq : uniT = tabOf uniM.R := by
  refine (tab_perm rules_nodup ?_)
  rw [uni_nums.rules]
  exact List.reverse_perm _
def okQ (q : Q) : Prop := q ∈ LN
theorem ln_val {q : Q} (h : q ∈ LN) : val q = true := by
  have := List.all_eq_true.mp chkA q h
  rw [Bool.and_eq_true] at this
  exact this.1
theorem val_ln {q : Q} (h : val q = true) : q ∈ LN := List.mem_of_getElem? (eq_of_beq h)
theorem agree : Agree uniT num okQ where
  look := fun q s d hq hs hd => by
    have h := List.all_eq_true.mp chkA q hq
    rw [Bool.and_eq_true] at h
    have h2 := of_decide_eq_true (List.all_eq_true.mp (List.all_eq_true.mp h.2 s (List.mem_range.mpr hs)) d (List.mem_range.mpr hd))
    rw [← h2, uniT_eq]
    unfold tabOf
    rw [List.find?_filter]
    congr 2
    funext r
    cases h1 : (r.1 == num q) <;> cases h2 : (r.2.1 == 2 * s + d) <;> simp
  keep := fun q s d z hq hs hd e => by
    have h := List.all_eq_true.mp chkB q hq
    rw [Bool.and_eq_true] at h
    have h2 := List.all_eq_true.mp (List.all_eq_true.mp h.1 s (List.mem_range.mpr hs)) d (List.mem_range.mpr hd)
    rw [e] at h2
    dsimp only at h2
    rw [Bool.and_eq_true, Bool.and_eq_true, Bool.and_eq_true, decide_eq_true_eq, decide_eq_true_eq, Bool.or_eq_true, Bool.or_eq_true, beq_iff_eq, beq_iff_eq, beq_iff_eq] at h2
    obtain ⟨q1, q2, q3, q4⟩ := h2
    refine ⟨q1, q2, val_ln q3, ?_⟩
    rcases q4 with (q4 | q4) | q4
    · exact .inl q4
    · exact .inr (.inl q4)
    · exact .inr (.inr q4)
  home := by decide +kernel
  only := fun q hq e => num_inj (ln_val hq) (by decide +kernel) (e.trans (by decide +kernel))
  okh := List.mem_cons_self
end UM
/-! Sizes of the builder's data. -/
namespace UM
def sz (b : BS) : Nat := b.nums.length + b.rules.length
theorem sz_state (b : BS) (q : Q) : sz (stateB b q) ≤ sz b + 1 := by
  unfold stateB
  split
  · omega
  · unfold sz
    rw [List.length_append]
    show b.nums.length + 1 + b.rules.length ≤ _
    omega
theorem sz_add (b : BS) (r : Rul) : sz (addB b r) = sz b + 1 := by
  unfold addB sz
  rw [List.length_append]
  rfl
theorem sz_on (b : BS) (n : Q) (s w : Nat) (m : Int) (f : Q) : sz (onB b n s w m f) ≤ sz b + 4 := by
  unfold onB
  rw [sz_add, sz_add]
  have h1 := sz_state b n
  have h2 := sz_state (stateB b n) f
  omega
theorem sz_fold {α : Type} {f : BS → α → BS} {c : Nat} (h : ∀ b x, sz (f b x) ≤ sz b + c) : ∀ (l : List α) (b : BS), sz (l.foldl f b) ≤ sz b + c * l.length
  | [], b => by simp
  | x :: l, b => by
    have h1 := sz_fold h l (f b x)
    have h2 := h b x
    rw [List.foldl_cons, List.length_cons, Nat.mul_succ]
    omega
theorem sz_keep (b : BS) (n : Q) (ss : List Nat) (m : Int) (f : Q) : sz (keepB b n ss m f) ≤ sz b + 4 * ss.length := by
  unfold keepB
  exact sz_fold (fun b s => sz_on b n s s m f) ss b
theorem len_others (p : Nat → Bool) : (others p).length ≤ 14 := by
  unfold others
  exact Nat.le_trans (List.length_filter_le _ _) (by simp)
theorem sz_seek (b : BS) (n : Q) (s : Nat) (m : Int) (f : Q) : sz (seekB b n s m f) ≤ sz b + 60 := by
  unfold seekB
  have h1 := sz_on (keepB b n (others fun o => o != s) m n) n s s 1 f
  have h2 := sz_keep b n (others fun o => o != s) m n
  have h3 := len_others fun o => o != s
  omega
theorem fold_take {α β : Type} {f : β → α → β} {l : List α} {i : Nat} {x : α} (h : l[i]? = some x) (b : β) : (l.take (i + 1)).foldl f b = f ((l.take i).foldl f b) x := by
  rw [List.take_succ, h, List.foldl_append]
  rfl
end UM
/-! Rules of my own: setdefault and a display with tuple keys, sorted of such a dict, t[::-1] of a tuple, a dict of the top walked by its int keys. -/
namespace L2
open PySem PySem.Spec PyProof.Rows
/-! ### d.setdefault(t, z), the keys tuples -/
section
variable {X : Cx} {pins : List (Addr × Obj)} {σ : St} {H : Hp} {s : Shared} {a b : Addr} {r : Value} {d : V} {k : List Key} {A : Around} {E : Value → Shared → Prop}
theorem d_setdT {kvs : List (List Key × V)} {Q : Value → Shared → Prop} (hu : A.units + 1 < cLine) (I : Inv X pins σ H s) (e : H a = some (.dT kvs)) (eb : H b = some (.tup (k.map kV))) (rd : RelV d r) (hl : kvs.length < sizeLine)
    (h1 : ∀ v, valV kvs k = some v → ∀ (w' : Value) (s' : Shared), Inv X pins σ H s' → RelV v w' → Q w' s') (h2 : valV kvs k = none → ∀ (w' : Value) (s' : Shared), Inv X pins σ (upd H a (.dT (putK kvs k d))) s' → RelV d w' → Q w' s') :
    wpAny (model X.prog X.w) A (call (.builtin "dict.setdefault") [.ref a, .ref b, r]) Q E s := by
  obtain ⟨z, hd, xs, rel, dd⟩ := dt_of I.hok e
  have hz : xs.length ≤ sizeLine := by rw [← Paired.length rel]; exact z
  refine call_setdefault_heap (tupleKind_room_in1 hu) (key_of I.hok eb) hd dd (fun p hp => ?_) (fun hn h' dd' hs => ?_) hz
  · have q := rel.val k
    rw [hp] at q
    cases q0 : valV kvs k with
    | none =>
      rw [q0] at q
      exact (show False from q).elim
    | some v0 =>
      rw [q0] at q
      exact h1 v0 q0 _ _ (I.tok _) q
  · have q := rel.val k
    rw [hn] at q
    cases q0 : valV kvs k with
    | some v0 =>
      rw [q0] at q
      exact (show False from q).elim
    | none =>
      have hl2 : (putK kvs k d).length ≤ sizeLine := by
        have := length_putK kvs k d
        omega
      obtain ⟨q, es, ep, hq, g2, g3, g4, _, g5⟩ := dd'
      refine h2 q0 _ _ (d_write I (by rw [e]; exact True.intro) hs ⟨q, hq⟩ ⟨hl2, hd, _, (rel.put k eb rd).keeps fun c ys ec => ?_, q, es, ep, hq, g2, g3, g4, g5⟩) rd
      rw [upd_ne (ne_of ec e (fun z => nomatch z))]
      exact ec
end
def tDSetT (td ty tx : TE) : TE := fun σ H Q => td σ H fun x H1 => ∃ a, x = .ref a ∧ IsD H1 a ∧ ty σ H1 fun y H2 => tx σ H2 fun z H3 => ∃ (kvs : List (List Key × V)) (k : List Key) (b : Addr), H3 a = some (.dT kvs) ∧ y = .ref b ∧ H3 b = some (.tup (k.map kV)) ∧ kvs.length < sizeLine ∧
  (∀ v, valV kvs k = some v → Q v H3) ∧ (valV kvs k = none → Q z (upd H3 a (.dT (putK kvs k z))))
section
variable {X : Cx} {o e f : Expr} {td ty tx : TE} {apos cpos : Pos}
theorem pe_dsetT (hu : X.A.units + 1 < cLine) (ho : PE X o td) (he : PE X e ty) (hf : PE X f tx) (m : M2 X o "setdefault" apos e f cpos) : PE X (.Call (.Attribute o "setdefault" apos) [e, f] [] cpos) (tDSetT td ty tx) := by
  refine ⟨fun pins s σ H Q I h => ?_⟩
  refine wpAny_Call_method m.base m.few m.line PySem.F.plainAttrs_dict PySem.F.slot_dict_setdefault PySem.F.type_dict_setdefault (thn (ho.run pins s σ H _ I h) fun u s1 ⟨x, H1, I1, rx, a, ex, d, q1⟩ => ?_)
  subst ex
  obtain rfl : u = Value.ref a := rx
  obtain ⟨t1, t2, _⟩ := isD_at I1 d
  refine ⟨t1, t2, ?_⟩
  rw [m.trees]
  refine Calls.callWith_builtin rfl (Calls.evalArgs_plain (Calls.spliced_cons (thn (he.run pins s1 σ H1 _ I1 q1) fun iv s2 ⟨y, H2, I2, ry, q2⟩ =>
    Calls.spliced_cons (thn (hf.run pins s2 σ H2 _ I2 q2) fun fv s3 ⟨z, H3, I3, rz, kvs, k, b, ea, ey, eb, hl, q3, q4⟩ => Calls.spliced_nil ?_))))
  subst ey
  obtain rfl : iv = Value.ref b := ry
  exact d_setdT hu I3 ea eb rz hl (fun v hv w' s4 I4 rw' => ⟨v, _, I4, rw', q3 v hv⟩) fun hn w' s4 I4 rw' => ⟨z, _, I4, rw', q4 hn⟩
end
/-! ### {t: v}, one pair, the key a tuple -/
def tDisT (tk tv : TE) : TE := fun σ H Q => ∀ p, H p = none → tk σ (upd H p (.dT [])) fun x H1 => tv σ H1 fun y H2 => ∃ (k : List Key) (b : Addr), H2 p = some (.dT []) ∧ x = .ref b ∧ H2 b = some (.tup (k.map kV)) ∧ Q (.ref p) (upd H2 p (.dT [(k, y)]))
theorem pe_disT {X : Cx} {pos : Pos} {ke ve : Expr} {tk tv : TE} (hu : X.A.units + 1 < cLine) (hk : PE X ke tk) (hv : PE X ve tv) : PE X (.Dict [some ke] [ve] pos) (tDisT tk tv) := by
  refine ⟨fun pins s σ H Q I q => ?_⟩
  have hn := I.hok.fresh (Nat.le_refl s.heap.objs.size)
  have I1 := I.laid (a := s.heap.objs.size) (o := .dT []) (h' := s.heap.push { cls := .type "dict", data := .dict #[] }) (t' := s.toks) (fun _ _ q => Heap.get?_push_of_some _ q) (Nat.le_refl _) (dt_empty s.heap I.big)
  have hsh : (evalEachOpt [some ke] X.env).zip ((evalEach [ve] X.env).map fun v => do let x ← v; standAt pos; pure x) = (pairTrees [some ke] [ve] X.env pos).map fun p => (some p.1, p.2) := zip_pairTrees [some ke] [ve] X.env pos rfl rfl
  rw [arm_eval_Dict, hsh, dictDisplay_pairs (pairTrees [some ke] [ve] X.env pos) (by
    intro h
    have e := pairTrees_length [some ke] [ve] X.env pos rfl rfl
    rw [h] at e
    exact absurd (show (0 : Nat) = 1 from e) (by decide)) (by
    have e := pairTrees_length [some ke] [ve] X.env pos rfl rfl
    rw [e]
    exact (by decide : (1 : Nat) < 17))]
  refine wpAny_bind (wpAny_standAt (wpAny_bind ?_))
  unfold subDict
  refine wpAny_bind (wpAny_alloc ?_)
  refine wpAny_bind (wpAny_holding ?_)
  rw [if_pos (by
    have e := pairTrees_length [some ke] [ve] X.env pos rfl rfl
    rw [e]
    exact (by decide : (1 : Nat) ≤ 15))]
  refine wpAny_bind (pairTrees_cons_walk (thn (hk.run pins _ σ _ _ I1 (q _ hn)) fun kv s2 ⟨x, H1, I2, rx, q2⟩ => thn (hv.run pins s2 σ H1 _ I2 q2) fun vv s3 ⟨y, H2, I3, ry, k, b, hp, ex, eb, q3⟩ => pairTrees_nil_walk ?_))
  subst ex
  obtain rfl : kv = Value.ref b := rx
  obtain ⟨z, hd, xs, rel, dd⟩ := dt_of I3.hok hp
  cases rel
  refine wpAny_holding ?_
  rw [List.forIn_cons]
  refine wpAny_bind (wpAny_bind (wpAny_bind (wpAny_dictSet_heap (hsz := by decide) (k := k) (v := vv) (show X.A.units < cLine by omega) (key_of I3.hok eb) dd fun h' dd' hs => wpAny_pure ?_)))
  dsimp only
  rw [List.forIn_nil]
  refine wpAny_pure (wpAny_pure (wpAny_pure (wpAny_pure ?_)))
  obtain ⟨q0, es, ep, hq, g2, g3, g4, _, g5⟩ := dd'
  refine ⟨.ref s.heap.objs.size, upd H2 s.heap.objs.size (.dT [(k, y)]), d_write I3 (by rw [hp]; exact True.intro) hs ⟨q0, hq⟩ ⟨(by decide : (1 : Nat) ≤ sizeLine), hd, _, KT.keeps (KT.put (.nil : KT H2 [] []) k eb ry) fun c ys ec => ?_, q0, es, ep, hq, g2, g3, g4, g5⟩, rfl, q3⟩
  rw [upd_ne (ne_of ec hp (fun z => nomatch z))]
  exact ec
/-! ### sorted(d), the keys of d pairs of ints -/
def pairAt (H : Hp) : Value → Int × Int
  | .ref a => (match H a with
    | some (.tup [.int i, .int j]) => (i, j)
    | _ => (0, 0))
  | _ => (0, 0)
def adOf : Value → Addr
  | .ref a => a
  | _ => 0
def pairKey (p : Int × Int) : List Key := [Sum.inl p.1, Sum.inl p.2]
theorem pairAt_eq {H : Hp} {a : Addr} {p : Int × Int} (h : H a = some (.tup ((pairKey p).map kV))) : pairAt H (.ref a) = p := by
  have h2 : H a = some (.tup [.int p.1, .int p.2]) := h
  show (match H a with
    | some (.tup [.int i, .int j]) => (i, j)
    | _ => (0, 0)) = p
  rw [h2]
def rSortedDT : List V → Hp → VK → Prop := fun vs H Q => ∃ (a : Addr) (kvs : List (List Key × V)) (ps : List (Int × Int)), vs = [.ref a] ∧ H a = some (.dT kvs) ∧ kvs.map (·.1) = ps.map pairKey ∧
  ∀ (bs : List (Addr × Int × Int)) (p : Addr), (bs.map (·.2)).Perm ps → (∀ b ∈ bs, H b.1 = some (.tup [.int b.2.1, .int b.2.2])) → H p = none → Q (.ref p) (upd H p (.lst (bs.map fun b => .ref b.1)))
section
variable {X : Cx}
theorem kt_pairs {H : Hp} : ∀ {kvs : List (List Key × V)} {ks : List (List Key × Addr × Value)} {ps : List (Int × Int)}, KT H kvs ks → kvs.map (·.1) = ps.map pairKey →
    (∀ v ∈ ks.map (fun x => Value.ref x.2.1), ∃ b, v = Value.ref b ∧ H b = some (.tup [.int (pairAt H v).1, .int (pairAt H v).2])) ∧ ks.map (fun x => pairAt H (Value.ref x.2.1)) = ps
  | [], _, ps, r, h => by
    cases r
    cases ps with
    | nil => exact ⟨fun v hv => (nomatch hv), rfl⟩
    | cons _ _ => cases h
  | k :: kvs, _, ps, r, h => by
    cases r with
    | @cons _ q _ qs hq t =>
      cases ps with
      | nil => cases h
      | cons p ps =>
        rw [List.map_cons, List.map_cons] at h
        obtain ⟨h1, h2⟩ := List.cons.inj h
        obtain ⟨g1, g2⟩ := kt_pairs t h2
        have hb := hq.2.1
        rw [h1] at hb
        have e := pairAt_eq hb
        refine ⟨fun v hv => ?_, ?_⟩
        · rw [List.map_cons] at hv
          rcases List.mem_cons.mp hv with hv | hv
          · rw [hv]
            refine ⟨_, rfl, ?_⟩
            rw [e]
            exact hb
          · exact g1 v hv
        · rw [List.map_cons, e, g2]
theorem cr_sortedDT (hc : X.calm = true) : CallR X (.builtin "sorted") rSortedDT := by
  intro pins s σ H xs us Q I r h
  obtain ⟨d, kvs, ps, rfl, hd, hks, q⟩ := h
  obtain ⟨u, rfl, rx⟩ := r.one
  cases rx
  obtain ⟨z, hs, ks, pr, o, es, ep, ho, hx, hdt, he, hn⟩ := (show ObjOk X.prog X.w H s.heap d (.dT kvs) from I.hok d _ hd)
  obtain ⟨pr1, pr2⟩ := kt_pairs pr hks
  have l1 : es.size = ks.length := size_of_entries he
  have l2 : kvs.length = ks.length := Paired.length pr
  refine Calls.call_function_entry PyProof.Rows.kind_sorted PyProof.Rows.plain_sorted PyProof.Rows.entry_sorted (PyProof.Rows.args_sorted1 _) ?_
  unfold Builtin.«sorted»
  refine wpAny_bind (m := checkCount "sorted" 1 1 _) (wpAny_pure ?_)
  refine wpAny_bind (PySem.W.kdu_collect (A := X.A.in1) (kdl_raw hs hx hdt) (I.ok.hd hc) ho (by omega) fun h' tk acc hk it => ?_)
  have ea : acc.toList = ks.map fun x => Value.ref x.2.1 := by
    have hl : acc.toList.length = ks.length := by rw [Array.length_toList, it.1]; exact l1
    apply List.ext_getElem?
    intro j
    rw [List.getElem?_map]
    cases hj : acc.toList[j]? with
    | none =>
      have h1 := List.getElem?_eq_none_iff.mp hj
      rw [List.getElem?_eq_none (by omega)]
      all_goals rfl
    | some v =>
      obtain ⟨en, hen, hv⟩ := it.2 j v (by rw [← Array.getElem?_toList]; exact hj)
      have qe := entry_at he j
      rw [hen] at qe
      cases hb : ks[j]? with
      | none =>
        rw [hb] at qe
        exact nomatch (show some en = none from qe)
      | some b =>
        rw [hb] at qe
        have e2 : en = entryOfKey (tupleKind (mixKind X.prog X.w)) b := Option.some.inj qe
        rw [hv, e2]
        all_goals rfl
  have I1 : Inv X pins σ H { s with heap := h', toks := tk } := I.kept hk
  rw [ea]
  generalize hvs : (ks.map fun x => Value.ref x.2.1) = vs at *
  have hz : vs.length ≤ sizeLine := by rw [← hvs, List.length_map]; omega
  refine wpAny_bind (wpAny_newList ?_ hz)
  have hoL : (h'.push (seqObj "list" vs.toArray 0)).get? h'.objs.size = some (seqObj "list" vs.toArray 0) := Heap.get?_push_size _ rfl
  show wpAny _ _ _ _ _ { s with heap := h'.push (seqObj "list" vs.toArray 0), toks := tk }
  have hp : ∀ v ∈ vs, Srt.IsPair (h'.push (seqObj "list" vs.toArray 0)) v (pairAt H v).1 (pairAt H v).2 := fun v hv => by
    obtain ⟨b, rfl, hb⟩ := pr1 v hv
    obtain ⟨_, its2, r2, ob, hob, hcb, n, hdb⟩ := (show ObjOk X.prog X.w H h' b (.tup _) from I1.hok b _ hb)
    obtain ⟨u1, u2, rfl, ri, rj⟩ := vals2 r2
    obtain ⟨t1, rfl⟩ := ri
    obtain ⟨t2, rfl⟩ := rj
    exact ⟨b, ob, t1, t2, n, rfl, Heap.get?_push_of_some _ hob, hcb, hdb⟩
  refine wpAny_bind (wpAny_holding (wpAny_call_entry PyProof.Rows.slot_list_sort ⟨_, hoL, rfl⟩ PyProof.Rows.entry_list_sort
    (SrtO.list_sort_ord (s := { s with heap := h'.push (seqObj "list" vs.toArray 0), toks := tk }) (SrtO.swo_lex (pairAt H)) hoL hz (fun h2 => SrtO.pairs_sortableO (by omega) hp fun o e c => ?_) fun out hso hb => ⟨_, rfl, ?_⟩) (PyProof.Rows.args_list_sort _)))
  · have e' : some o = some (seqObj "list" vs.toArray 0) := e.symm.trans hoL
    cases e'
    exact absurd (Value.type.inj c) (by decide)
  · obtain ⟨e', he'⟩ := PyProof.Rows.sortedHeap_at (vs := vs) (out := out.toArray) hoL
    have hperm := hb.perm
    have hrefs : out = (out.map fun u => (adOf u, pairAt H u)).map (fun b => Value.ref b.1) := by
      rw [List.map_map]
      have : ∀ u ∈ out, ((fun b : Addr × Int × Int => Value.ref b.1) ∘ fun u => (adOf u, pairAt H u)) u = u := fun u hu => by
        obtain ⟨b, rfl, _⟩ := pr1 u (hperm.mem_iff.mp hu)
        rfl
      rw [List.map_congr_left this, List.map_id']
    refine wpAny_pure ⟨_, rfl, .ref h'.objs.size, upd H h'.objs.size (.lst ((out.map fun u => (adOf u, pairAt H u)).map fun b => V.ref b.1)), I1.laid (t' := tk) (fun b u e => ?_) (Nat.le_refl _)
      (show ObjOk X.prog X.w _ _ _ (.lst _) from ⟨?_, out, e', ?_, he'⟩), rfl, q _ _ ?_ (fun b hb => ?_) (I1.hok.fresh (Nat.le_refl _))⟩
    · have hb : b < h'.objs.size := Heap.lt_size e
      rw [PyProof.Rows.sortedHeap_old (Nat.ne_of_lt hb) (by rw [size_push']; exact Nat.lt_succ_of_lt hb)]
      exact Heap.get?_push_of_some _ e
    · rw [List.length_map, List.length_map, hperm.length_eq]
      exact hz
    · rw [show Vals ((out.map fun u => (adOf u, pairAt H u)).map fun b => V.ref b.1) out ↔ Vals ((out.map fun u => (adOf u, pairAt H u)).map fun b => V.ref b.1) ((out.map fun u => (adOf u, pairAt H u)).map fun b => Value.ref b.1) by rw [← hrefs]]
      have := vals_refs ((out.map fun u => (adOf u, pairAt H u)).map fun b => b.1)
      simpa only [List.map_map, Function.comp_def] using this
    · rw [List.map_map, ← pr2]
      have e : ks.map (fun x => pairAt H (Value.ref x.2.1)) = vs.map (pairAt H) := by rw [← hvs, List.map_map]; rfl
      rw [e]
      exact hperm.map _
    · obtain ⟨u, hu, rfl⟩ := List.mem_map.mp hb
      obtain ⟨b, rfl, h3⟩ := pr1 u (hperm.mem_iff.mp hu)
      exact h3
end
/-! ### t[::-1], t a tuple -/
section
variable {prog : Program} {w : World} {A : Around} {E : Value → Shared → Prop} {s : Shared}
theorem adjust_rev (n : Nat) : Builtin.Slice.sliceAdjust none none (-1) (n : Int) = ((n : Int) - 1, -1) := by
  unfold Builtin.Slice.sliceAdjust
  simp
theorem places_rev (n : Nat) : Builtin.Slice.slicePlaces ((n : Int) - 1) (-1) (-1) = n := by
  unfold Builtin.Slice.slicePlaces
  rw [if_neg (by decide)]
  by_cases h : (n : Int) - 1 > -1
  · rw [if_pos h, show (- -1 : Int) = 1 by decide, Int.ediv_one]
    omega
  · rw [if_neg h]
    omega
theorem sliceApplied_rev {sl : Addr} {vs : Value} {n : Nat} {Q : Int × Int × Nat → Shared → Prop} (hs : s.heap.IsSliceOf sl .none .none vs) (ps : IsPart vs (some (-1))) (h : Q ((n : Int) - 1, -1, n) s) :
    wpAny (model prog w) A (Builtin.Slice.sliceApplied (.ref sl) (pure (n : Int))) Q E s := by
  obtain ⟨os, hos, hcs, hds⟩ := id hs
  unfold Builtin.Slice.sliceApplied Builtin.Slice.sliceFields
  refine wpAny_bind (wpAny_bind (wpAny_field hos hds (x := .none) rfl (wpAny_bind (wpAny_field hos hds (x := .none) rfl (wpAny_bind (wpAny_field hos hds (x := vs) rfl (wpAny_pure ?_)))))))
  refine wpAny_bind (HT.slicePart_ ps ?_)
  show wpAny _ _ (if ((-1 : Int) == 0) = true then _ else _) _ _ s
  rw [if_neg (by decide)]
  refine wpAny_bind (slicePart_none (wpAny_bind (slicePart_none (wpAny_bind (wpAny_pure ?_)))))
  show wpAny _ _ (match Builtin.Slice.sliceAdjust none none (-1) (n : Int) with | (lo, hi) => pure (lo, (-1 : Int), Builtin.Slice.slicePlaces lo hi (-1))) _ _ s
  rw [adjust_rev n]
  show wpAny _ _ (pure ((n : Int) - 1, (-1 : Int), Builtin.Slice.slicePlaces ((n : Int) - 1) (-1) (-1))) _ _ s
  rw [places_rev]
  exact wpAny_pure h
theorem pick_rev (xs : Array Value) : ((List.range xs.size).filterMap fun (m : Nat) => xs[((xs.size : Int) - 1 + (m : Int) * (-1)).toNat]?).toArray = xs.toList.reverse.toArray := by
  have e : ∀ m ∈ List.range xs.size, xs[((xs.size : Int) - 1 + (m : Int) * (-1)).toNat]? = xs[xs.size - 1 - m]? := fun m hm => by
    have := List.mem_range.mp hm
    congr 1
    omega
  have gen : ∀ (l : List Nat) (f g : Nat → Option Value), (∀ m ∈ l, f m = g m) → l.filterMap f = l.filterMap g := by
    intro l f g
    induction l with
    | nil => intro _; rfl
    | cons a l ih =>
      intro h
      rw [List.filterMap_cons, List.filterMap_cons, h a List.mem_cons_self, ih fun m hm => h m (List.mem_cons_of_mem _ hm)]
  rw [gen _ _ _ e]
  have e2 : (List.range xs.size).filterMap (fun m => xs[xs.size - 1 - m]?) = ((List.range xs.size).map fun k => xs.size - 1 - k).filterMap (xs[·]?) := by
    rw [List.filterMap_map]
    rfl
  rw [e2, PySem.W.krv_range, List.filterMap_reverse, PySem.W.krv_all]
theorem getItem_tuple_rev {t sl : Addr} {items : Array Value} {vs : Value} {Q : Value → Shared → Prop} (ht : IsTup s.heap t items) (hs : s.heap.IsSliceOf sl .none .none vs) (ps : IsPart vs (some (-1)))
    (h : Q (.ref s.heap.objs.size) { s with heap := s.heap.push { cls := .type "tuple", data := .seq items.toList.reverse.toArray } })
    (hsz : items.size ≤ sizeLine) : wpAny (model prog w) A (getItem (.ref t) (.ref sl)) Q E s := by
  have htake : sizeOk (.seq items.toList.reverse.toArray) := by
    show items.toList.reverse.toArray.size ≤ sizeLine
    rw [List.size_toArray, List.length_reverse, Array.length_toList]
    exact hsz
  obtain ⟨os, hos, hcs, hds⟩ := id hs
  have hTs : s.TypeIs (.ref sl) "slice" := ⟨os, hos, hcs⟩
  unfold getItem
  try with_reducible refine wpAny_holding ?_
  first | refine wpAny_bind (wpAny_pure ?_) | skip
  refine wpAny_bind (wpAny_sequenceKey ht.typeIs (by decide) ?_)
  refine wpAny_bind (wpAny_callSpecial?_slot (name := Str.ofString "__getitem__") ht.typeIs PyProof.Rows.slot_tuple_getitem
    (wpAny_call_entry PyProof.Rows.slot_tuple_getitem ht.typeIs PyProof.Rows.entry_tuple_getitem ?_ (PyProof.Rows.args_tuple_getitem _ _)))
  show wpAny _ _ (Builtin.Tuple.tupleItemsOf (.ref t) >>= _) _ _ s
  refine wpAny_bind (tupleItemsOf_ ht ?_)
  refine wpAny_bind (wpAny_typeOf hTs ?_)
  rw [if_pos (by decide)]
  refine wpAny_bind (sliceApplied_rev hs ps ?_)
  have hno : ¬ ((((items.size : Int) - 1) == 0 && (-1 : Int) == 1 && items.size == items.size) = true) := by
    intro q
    rw [Bool.and_eq_true, Bool.and_eq_true] at q
    exact absurd (eq_of_beq q.1.2) (by decide)
  show wpAny _ _ (if (((items.size : Int) - 1) == 0 && (-1 : Int) == 1 && items.size == items.size) = true then _ else _) _ _ s
  rw [if_neg hno, pick_rev]
  first
    | exact wpAny_bind (m := Builtin.Tuple.tupleExact _) (wpAny_newObj_type (wpAny_pure ⟨_, rfl, wpAny_pure h⟩) htake)
    | exact wpAny_bind (m := Builtin.Tuple.tupleExact _) (wpAny_newObj_type (wpAny_bind (wpAny_pure (wpAny_pure ⟨_, rfl, wpAny_pure h⟩))) htake)
    | exact wpAny_bind (wpAny_bind (m := Builtin.Tuple.tupleExact _) (wpAny_newObj_type (wpAny_pure (wpAny_pure ⟨_, rfl, wpAny_pure h⟩)) htake))
    | exact wpAny_bind (wpAny_bind (m := Builtin.Tuple.tupleExact _) (wpAny_newObj_type (wpAny_pure ⟨_, rfl, wpAny_pure h⟩) htake))
end
def tRevT (K : PySem.W.Frag) (te : TE) : TE := fun σ H Q => te σ H fun x H1 => ∃ a xs, x = .ref a ∧ SqT K H1 a xs ∧ ∀ p, H1 p = none → Q (.ref p) (upd H1 p (.tup xs.reverse))
section
variable {X : Cx}
theorem pe_revT {e : Expr} {te : TE} {k : Nat} {p1 p2 p3 pos : Pos} (he : PE X e te) : PE X (.Subscript e (.Slice none none (some (.UnaryOp .USub (.Constant (.int 1) k p1) p2)) p3) pos) (tRevT X.K te) := by
  refine ⟨fun pins s σ H Q I h => ?_⟩
  refine Subscript_ (thn (he.run pins s σ H _ I h) fun v s1 ⟨x, H1, I1, r1, q1⟩ => ?_)
  obtain ⟨a, xs, ex, hx, q⟩ := q1
  subst ex
  cases r1
  have hst : PO X (some (.UnaryOp .USub (.Constant (.int 1) k p1) p2)) (tPart (tUn (rU fun i => .int (-i)) (tC (.int 1)))) := po_some (pe_un un_neg pe_int)
  refine wpAny_Slice (thn (po_none.run pins s1 σ H1 (fun o H2 => o = none ∧ H2 = H1) I1 ⟨rfl, rfl⟩) fun vl s2 ⟨l, H2, I2, pl, el, e2⟩ => ?_)
  subst el e2
  refine thn (po_none.run pins s2 σ H2 (fun o H3 => o = none ∧ H3 = H2) I2 ⟨rfl, rfl⟩) fun vu s3 ⟨u, H3, I3, pu, eu, e3⟩ => ?_
  subst eu e3
  refine thn (hst.run pins s3 σ H3 (fun o H4 => o = some (-1) ∧ H4 = H3) I3 ⟨1, rfl, -1, rfl, rfl, rfl⟩) fun vs s4 ⟨o, H4, I4, ps, eo, e4⟩ => ?_
  subst eo e4
  cases pl
  cases pu
  have I5 : Inv X pins σ H4 { s4 with heap := s4.heap.push { cls := .type "slice", data := .fields #[.none, .none, vs] } } := I4.kept (t' := s4.toks) fun b ob q => Heap.get?_push_of_some _ q
  obtain ⟨its, r, ht, hz⟩ := I5.tuple hx
  have hlen := r.length
  show wpAny (model X.prog X.w) X.A (subscriptTail e (.Slice none none (some (.UnaryOp .USub (.Constant (.int 1) k p1) p2)) p3) (.ref a) (.ref s4.heap.objs.size)) (EP X pins σ Q) X.xe { s4 with heap := s4.heap.push { cls := .type "slice", data := .fields #[.none, .none, vs] } }
  refine tail_any (ops := [.ref a, .ref s4.heap.objs.size]) ht.typeIs (PyProof.Rows.slot_tuple_getitem.lookup) ?_ (by with_unfolding_all rfl)
  refine getItem_tuple_rev ht (Heap.IsSliceOf.new _ .none .none vs) ps ?_ (by rw [List.size_toArray]; omega)
  refine ⟨.ref _, _, I5.laid (t' := s4.toks) (o := .tup xs.reverse) (fun b ob q => Heap.get?_push_of_some _ q) (Nat.le_refl _) ?_, rfl, q _ (I5.hok.fresh (Nat.le_refl _))⟩
  exact ⟨by rw [List.length_reverse]; exact hz, _, r.reverse, _, Heap.get?_push_size _ rfl, rfl, 0, rfl⟩
end
/-! ### a dict of the top with int keys, walked -/
def KInts (K : PySem.W.Frag) (d : Addr) (ks : List Int) : Prop := ∃ (o : Obj) (es : Array DictEntry) (ep : Nat), K.lookup d = some o ∧ o.ExactDict ∧ o.data = .dict es ep ∧ (d == sysModules) = false ∧ es.size = ks.length ∧ ks.length ≤ sizeLine ∧
  ∀ (i : Nat) (k : Int), ks[i]? = some k → ∃ (en : DictEntry) (t : Tok), es[i]? = some en ∧ en.key = .int k t
def Itkd (ks : List Int) : It := ⟨fun i _ => i < ks.length, fun i H x H' => H' = H ∧ ∃ k, ks[i]? = some k ∧ x = .int k, fun i _ => ks.length ≤ i⟩
section
variable {P : Program} {w : World} {K : PySem.W.Frag} {tg : Expr} {d : Addr} {ks : List Int} {o : Obj} {es : Array DictEntry} {ep : Nat}
theorem turn_kd (it : Addr) (lk : K.lookup d = some o) (hod : o.data = .dict es ep) (hsz : es.size = ks.length) (hk : ∀ (i : Nat) (k : Int), ks[i]? = some k → ∃ (en : DictEntry) (t : Tok), es[i]? = some en ∧ en.key = .int k t) :
    Turn P w K tg (Itkd ks) [it] it (fun i h => h.IsKeyIter it d i ks.length ep) where
  mem := by simp
  obj := fun i h st b hb => by
    have e : b = it := by simpa using hb
    subst e
    obtain ⟨oi, e, c, dd⟩ := st
    exact ⟨oi, e, fun v z => by rw [dd] at z; cases z⟩
  keep := fun i h h' st k => st.at fun oi e => k it (by simp) oi e
  item := by
    intro X hP hw hK hc i pins s σ H E I hf st hi
    subst hP hw hK
    obtain ⟨f0, f1, f2, f3, f4, f5⟩ := hf it (by simp)
    obtain ⟨k, hkv⟩ : ∃ k, ks[i]? = some k := ⟨ks[i], List.getElem?_eq_getElem hi⟩
    obtain ⟨en, t, hen, hkey⟩ := hk i k hkv
    refine next_key_item st (I.kIn _ _ lk) hod hsz hen fun h' st' sb => ?_
    have I1 : Inv X pins σ H { s with heap := h' } := I.turned (t' := s.toks) (fun b ob hb e => (sb.2 b hb).trans e) f0 f1 f3 f4 f5
    obtain ⟨oi, e, c, dd⟩ := id st'
    exact ⟨en.key, rfl, go_of (s := { s with heap := h' }) e c dd (by decide) ⟨.int k, H, I1, ⟨t, hkey⟩, ⟨rfl, k, hkv, rfl⟩, st', fun b hb => (hf b hb).1⟩⟩
  done := by
    intro X hP hw hK hc i pins s σ H E I hf st hi
    subst hP hw hK
    obtain ⟨f0, f1, f2, f3, f4, f5⟩ := hf it (by simp)
    exact next_key_end (I.ok.hd hc) st (I.kIn _ _ lk) hod hsz hi fun h' eb => ⟨rfl, I.turned (t' := s.toks) (fun b ob hb e => eb b ob hb e) f0 f1 f3 f4 f5⟩
  self := fun A i s Q E st h => wpAny_pyIter_keyiter st h
end
def iKd (K : PySem.W.Frag) (td : TE) : TI := fun σ H R => td σ H fun x H1 => ∃ d ks, x = .ref d ∧ KInts K d ks ∧ R (Itkd ks) H1
section
variable {X : Cx} {tg e : Expr} {td : TE}
theorem pi_kd (he : PE X e td) : PI X tg e (iKd X.K td) := by
  refine ⟨fun pins s σ H R I h => ?_⟩
  refine thn (he.run pins s σ H _ I h) fun u s1 ⟨x, H1, I1, rx, d, ks, ex, ⟨o, es, ep, lk, hx, hdt, hs, hsz, hz, hk⟩, q⟩ => ?_
  subst ex
  obtain rfl : u = Value.ref d := rx
  refine iter_keys hs (I1.kIn _ _ lk) hx hdt (pi_one (tk := s1.toks) I1 _ (turn_kd _ lk hdt hsz hk) ⟨_, Heap.get?_push_size _ rfl, rfl, ?_⟩ q)
  rw [hsz] <;> rfl
theorem call_list_kd (hc : X.calm = true) : CallR X (.type "list") (fun xs H Q => ∃ d ks, xs = [V.ref d] ∧ KInts X.K d ks ∧ ∀ p, H p = none → Q (.ref p) (upd H p (.lst (ks.map V.int)))) := by
  intro pins s σ H xs us Q I r h
  obtain ⟨d, ks, rfl, ⟨o, es, ep, lk, hx, hdt, hs, hsz, hz, hk⟩, q⟩ := h
  obtain ⟨u, rfl, rx⟩ := r.one
  cases rx
  refine PySem.W.kdl_call (kdl_raw hs hx hdt) (I.ok.hd hc) (I.kIn _ _ lk) (by omega) fun h' tk acc' c' kp e it => ?_
  have hl : acc'.toList.length = ks.length := by rw [Array.length_toList, it.1]; exact hsz
  have rv : Vals (ks.map V.int) acc'.toList := by
    have gen : ∀ (l : List Int) (us : List Value), us.length = l.length → (∀ (j : Nat) (v : Value) (k : Int), us[j]? = some v → l[j]? = some k → ∃ t, v = .int k t) → Vals (l.map V.int) us := by
      intro l
      induction l with
      | nil =>
        intro us h1 _
        cases us with
        | nil => exact .nil
        | cons _ _ => simp at h1
      | cons k l ih =>
        intro us h1 h2
        cases us with
        | nil => simp at h1
        | cons u us =>
          rw [List.map_cons]
          refine .cons (h2 0 u k rfl rfl) (ih us (by simpa using h1) fun j v k' e1 e2 => h2 (j + 1) v k' (by simpa using e1) (by simpa using e2))
    refine gen ks acc'.toList hl fun j v k e1 e2 => ?_
    obtain ⟨en, hen, hv⟩ := it.2 j v (by rw [← Array.getElem?_toList]; exact e1)
    obtain ⟨en', t, hen', hkey⟩ := hk j k e2
    rw [hen] at hen'
    cases hen'
    exact ⟨t, by rw [hv, hkey]⟩
  refine ⟨.ref s.heap.objs.size, _, I.laid (t' := tk) (o := .lst (ks.map V.int)) kp (Nat.le_refl _) ?_, rfl, q _ (I.hok.fresh (Nat.le_refl _))⟩
  exact ⟨by rw [List.length_map]; exact hz, acc'.toList, c', rv, by rw [Array.toArray_toList]; exact e⟩
end
/-- the loop over such a dict -/
theorem for_kd {ks : List Int} {g : TG} {tb : TS} {D : Ends} {σ : St} {H : Hp} (Pv : Nat → St → Hp → Prop) (h0 : Pv 0 σ H)
    (hs : ∀ i k σ H, ks[i]? = some k → Pv i σ H → g (.int k) σ H fun σ2 H2 => tb { D with nx := Pv (i + 1), ct := Pv (i + 1), bk := D.nx } σ2 H2) (hd : ∀ σ H, Pv ks.length σ H → D.nx σ H) :
    ∃ W : Nat → Nat → St → Hp → Prop, (∃ m, W 0 m σ H) ∧ ∀ i m σ H, W i m σ H →
      ((Itkd ks).stop i H ∧ D.nx σ H) ∨ ((Itkd ks).go i H ∧ ∃ N : St → Hp → Prop, (∀ σ' H', N σ' H' → ∃ m', m' < m ∧ W (i + 1) m' σ' H') ∧ ∀ x H', (Itkd ks).yld i H x H' → g x σ H' fun σ2 H2 => tb { D with nx := N, ct := N, bk := D.nx } σ2 H2) := by
  refine ⟨fun i m σ H => m = ks.length - i ∧ i ≤ ks.length ∧ Pv i σ H, ⟨ks.length, by simp, Nat.zero_le _, h0⟩, ?_⟩
  rintro i m σ H ⟨rfl, hi, p⟩
  by_cases hlt : i < ks.length
  · refine .inr ⟨hlt, Pv (i + 1), fun σ' H' p' => ⟨ks.length - (i + 1), by omega, rfl, hlt, p'⟩, fun x H' y => ?_⟩
    obtain ⟨e, k, hk, e2⟩ := y
    subst e e2
    exact hs i k σ _ hk p
  · have e : i = ks.length := by omega
    subst e
    exact .inl ⟨Nat.le_refl _, hd σ H p⟩
end L2
namespace TH
open PySem PySem.Spec PyProof.Rows L2
def top (i : Nat) : Stmt := PySem.Challenge.pw_translatory_k44_whole_the_universal_mach.main.body.getD i (.Pass ⟨0, 0, 0, 0⟩)
abbrev s_stripped : Stmt := (top 9)
abbrev s_Turing_init : Stmt := (inClass (top 10) 0)
abbrev s_Turing_rule : Stmt := (inClass (top 10) 2)
abbrev s_Turing_step : Stmt := (inClass (top 10) 3)
abbrev s_moved : Stmt := (top 11)
abbrev s_Builder_init : Stmt := (inClass (top 30) 0)
abbrev s_Builder_state : Stmt := (inClass (top 30) 1)
abbrev s_Builder_on : Stmt := (inClass (top 30) 2)
abbrev s_Builder_keep : Stmt := (inClass (top 30) 3)
abbrev s_Builder_seek : Stmt := (inClass (top 30) 4)
abbrev s_write_reading : Stmt := (top 31)
abbrev s_write_writing : Stmt := (top 32)
abbrev s_write_choosing : Stmt := (top 33)
abbrev s_write_moving : Stmt := (top 34)
abbrev s_universal : Stmt := (top 35)
abbrev s_ToUniversal_init : Stmt := (inClass (top 36) 0)
abbrev s_ToUniversal_entry : Stmt := (inClass (top 36) 1)
abbrev s_ToUniversal_signs : Stmt := (inClass (top 36) 2)
abbrev s_ToUniversal_picture : Stmt := (inClass (top 36) 3)
abbrev s_ToUniversal_read_back : Stmt := (inClass (top 36) 4)
abbrev s_ToUniversal_steps_to_home : Stmt := (inClass (top 36) 5)
abbrev s_ToUniversal_cost : Stmt := (inClass (top 36) 6)
abbrev s_ToUniversal_last_steps : Stmt := (inClass (top 36) 7)
abbrev s_law_cell : Stmt := (top 52)
abbrev s_law_draws : Stmt := (top 53)
abbrev s_law_like : Stmt := (top 54)
abbrev s_law_strip : Stmt := (top 55)
abbrev s_law_rules : Stmt := (top 56)
abbrev s_law_tape : Stmt := (top 57)
abbrev s_law_turing_step : Stmt := (top 58)
abbrev s_law_table : Stmt := (top 59)
abbrev s_law_runner : Stmt := (top 65)
abbrev s_law_go : Stmt := (top 66)
abbrev s_law_many : Stmt := (top 67)
abbrev s_law_follows : Stmt := (top 68)
abbrev s_law_is_count : Stmt := (top 69)
abbrev s_law_drawn_turing : Stmt := (top 70)
abbrev s_law : Stmt := (top 71)
def d_stripped : He.DefD := ⟨("stripped", none), "stripped", "stripped", defArgs s_stripped, defBody s_stripped, defScope s_stripped, [], []⟩
def d_Turing_init : He.DefD := ⟨("Turing", some "__init__"), "__init__", "Turing.__init__", defArgs s_Turing_init, defBody s_Turing_init, defScope s_Turing_init, [], []⟩
def d_Turing_rule : He.DefD := ⟨("Turing", some "rule"), "rule", "Turing.rule", defArgs s_Turing_rule, defBody s_Turing_rule, defScope s_Turing_rule, [], []⟩
def d_Turing_step : He.DefD := ⟨("Turing", some "step"), "step", "Turing.step", defArgs s_Turing_step, defBody s_Turing_step, defScope s_Turing_step, [], []⟩
def d_moved : He.DefD := ⟨("moved", none), "moved", "moved", defArgs s_moved, defBody s_moved, defScope s_moved, [], []⟩
def d_Builder_init : He.DefD := ⟨("Builder", some "__init__"), "__init__", "Builder.__init__", defArgs s_Builder_init, defBody s_Builder_init, defScope s_Builder_init, [], []⟩
def d_Builder_state : He.DefD := ⟨("Builder", some "state"), "state", "Builder.state", defArgs s_Builder_state, defBody s_Builder_state, defScope s_Builder_state, [], []⟩
def d_Builder_on : He.DefD := ⟨("Builder", some "on"), "on", "Builder.on", defArgs s_Builder_on, defBody s_Builder_on, defScope s_Builder_on, [], []⟩
def d_Builder_keep : He.DefD := ⟨("Builder", some "keep"), "keep", "Builder.keep", defArgs s_Builder_keep, defBody s_Builder_keep, defScope s_Builder_keep, [], []⟩
def d_Builder_seek : He.DefD := ⟨("Builder", some "seek"), "seek", "Builder.seek", defArgs s_Builder_seek, defBody s_Builder_seek, defScope s_Builder_seek, [], []⟩
def d_write_reading : He.DefD := ⟨("write_reading", none), "write_reading", "write_reading", defArgs s_write_reading, defBody s_write_reading, defScope s_write_reading, [], []⟩
def d_write_writing : He.DefD := ⟨("write_writing", none), "write_writing", "write_writing", defArgs s_write_writing, defBody s_write_writing, defScope s_write_writing, [], []⟩
def d_write_choosing : He.DefD := ⟨("write_choosing", none), "write_choosing", "write_choosing", defArgs s_write_choosing, defBody s_write_choosing, defScope s_write_choosing, [], []⟩
def d_write_moving : He.DefD := ⟨("write_moving", none), "write_moving", "write_moving", defArgs s_write_moving, defBody s_write_moving, defScope s_write_moving, [], []⟩
def d_universal : He.DefD := ⟨("universal", none), "universal", "universal", defArgs s_universal, defBody s_universal, defScope s_universal, [], []⟩
def d_ToUniversal_init : He.DefD := ⟨("ToUniversal", some "__init__"), "__init__", "ToUniversal.__init__", defArgs s_ToUniversal_init, defBody s_ToUniversal_init, defScope s_ToUniversal_init, [], []⟩
def d_ToUniversal_entry : He.DefD := ⟨("ToUniversal", some "entry"), "entry", "ToUniversal.entry", defArgs s_ToUniversal_entry, defBody s_ToUniversal_entry, defScope s_ToUniversal_entry, [], []⟩
def d_ToUniversal_signs : He.DefD := ⟨("ToUniversal", some "signs"), "signs", "ToUniversal.signs", defArgs s_ToUniversal_signs, defBody s_ToUniversal_signs, defScope s_ToUniversal_signs, [], []⟩
def d_ToUniversal_picture : He.DefD := ⟨("ToUniversal", some "picture"), "picture", "ToUniversal.picture", defArgs s_ToUniversal_picture, defBody s_ToUniversal_picture, defScope s_ToUniversal_picture, [], []⟩
def d_ToUniversal_read_back : He.DefD := ⟨("ToUniversal", some "read_back"), "read_back", "ToUniversal.read_back", defArgs s_ToUniversal_read_back, defBody s_ToUniversal_read_back, defScope s_ToUniversal_read_back, [], []⟩
def d_ToUniversal_steps_to_home : He.DefD := ⟨("ToUniversal", some "steps_to_home"), "steps_to_home", "ToUniversal.steps_to_home", defArgs s_ToUniversal_steps_to_home, defBody s_ToUniversal_steps_to_home, defScope s_ToUniversal_steps_to_home, [], []⟩
def d_ToUniversal_cost : He.DefD := ⟨("ToUniversal", some "cost"), "cost", "ToUniversal.cost", defArgs s_ToUniversal_cost, defBody s_ToUniversal_cost, defScope s_ToUniversal_cost, [], []⟩
def d_ToUniversal_last_steps : He.DefD := ⟨("ToUniversal", some "last_steps"), "last_steps", "ToUniversal.last_steps", defArgs s_ToUniversal_last_steps, defBody s_ToUniversal_last_steps, defScope s_ToUniversal_last_steps, [], []⟩
def d_law_cell : He.DefD := ⟨("_law_cell", none), "_law_cell", "_law_cell", defArgs s_law_cell, defBody s_law_cell, defScope s_law_cell, [], []⟩
def d_law_draws : He.DefD := ⟨("_law_draws", none), "_law_draws", "_law_draws", defArgs s_law_draws, defBody s_law_draws, defScope s_law_draws, [], []⟩
def d_law_like : He.DefD := ⟨("_law_like", none), "_law_like", "_law_like", defArgs s_law_like, defBody s_law_like, defScope s_law_like, [], []⟩
def d_law_strip : He.DefD := ⟨("_law_strip", none), "_law_strip", "_law_strip", defArgs s_law_strip, defBody s_law_strip, defScope s_law_strip, [], []⟩
def d_law_rules : He.DefD := ⟨("_law_rules", none), "_law_rules", "_law_rules", defArgs s_law_rules, defBody s_law_rules, defScope s_law_rules, [], []⟩
def d_law_tape : He.DefD := ⟨("_law_tape", none), "_law_tape", "_law_tape", defArgs s_law_tape, defBody s_law_tape, defScope s_law_tape, [], []⟩
def d_law_turing_step : He.DefD := ⟨("_law_turing_step", none), "_law_turing_step", "_law_turing_step", defArgs s_law_turing_step, defBody s_law_turing_step, defScope s_law_turing_step, [], []⟩
def d_law_table : He.DefD := ⟨("_law_table", none), "_law_table", "_law_table", defArgs s_law_table, defBody s_law_table, defScope s_law_table, [], []⟩
def d_law_runner : He.DefD := ⟨("_law_runner", none), "_law_runner", "_law_runner", defArgs s_law_runner, defBody s_law_runner, defScope s_law_runner, [], []⟩
def d_law_go : He.DefD := ⟨("_law_go", none), "_law_go", "_law_go", defArgs s_law_go, defBody s_law_go, defScope s_law_go, [], []⟩
def d_law_many : He.DefD := ⟨("_law_many", none), "_law_many", "_law_many", defArgs s_law_many, defBody s_law_many, defScope s_law_many, [], []⟩
def d_law_follows : He.DefD := ⟨("_law_follows", none), "_law_follows", "_law_follows", defArgs s_law_follows, defBody s_law_follows, defScope s_law_follows, [], []⟩
def d_law_is_count : He.DefD := ⟨("_law_is_count", none), "_law_is_count", "_law_is_count", defArgs s_law_is_count, defBody s_law_is_count, defScope s_law_is_count, [], []⟩
def d_law_drawn_turing : He.DefD := ⟨("_law_drawn_turing", none), "_law_drawn_turing", "_law_drawn_turing", defArgs s_law_drawn_turing, defBody s_law_drawn_turing, defScope s_law_drawn_turing, [], []⟩
def d_law : He.DefD := ⟨("law", none), "law", "law", defArgs s_law, defBody s_law, defScope s_law, [], []⟩
def fn : List He.DefD := [d_stripped, d_Turing_init, d_Turing_rule, d_Turing_step, d_moved, d_Builder_init, d_Builder_state, d_Builder_on, d_Builder_keep, d_Builder_seek, d_write_reading, d_write_writing, d_write_choosing, d_write_moving, d_universal, d_ToUniversal_init, d_ToUniversal_entry, d_ToUniversal_signs, d_ToUniversal_picture, d_ToUniversal_read_back, d_ToUniversal_steps_to_home, d_ToUniversal_cost, d_ToUniversal_last_steps, d_law_cell, d_law_draws, d_law_like, d_law_strip, d_law_rules, d_law_tape, d_law_turing_step, d_law_table, d_law_runner, d_law_go, d_law_many, d_law_follows, d_law_is_count, d_law_drawn_turing, d_law]
def fa : List He.Fa := [.glo "stripped",
  .glo "moved",
  .glo "write_reading",
  .glo "write_writing",
  .glo "write_choosing",
  .glo "write_moving",
  .glo "universal",
  .glo "_law_cell",
  .glo "_law_draws",
  .glo "_law_like",
  .glo "_law_strip",
  .glo "_law_rules",
  .glo "_law_tape",
  .glo "_law_turing_step",
  .glo "_law_table",
  .glo "_law_runner",
  .glo "_law_go",
  .glo "_law_many",
  .glo "_law_follows",
  .glo "_law_is_count",
  .glo "_law_drawn_turing",
  .glo "law",
  .glo "Turing",
  .cls "Turing",
  .mkr "Turing",
  .glo "Builder",
  .cls "Builder",
  .mkr "Builder",
  .glo "ToUniversal",
  .cls "ToUniversal",
  .mkr "ToUniversal",
  .glo "MOVES",
  .glo "Registers",
  .glo "Fractions",
  .glo "Tags",
  .glo "Strings",
  .noat "Turing" "states",
  .noat "Turing" "symbols",
  .noat "Turing" "table",
  .noat "Turing" "rules",
  .noat "Builder" "numbers",
  .noat "Builder" "rules",
  .noat "ToUniversal" "source",
  .noat "ToUniversal" "target",
  .noat "ToUniversal" "rows",
  .meth "Turing" "rule",
  .meth "Turing" "step",
  .meth "Builder" "state",
  .meth "Builder" "on",
  .meth "Builder" "keep",
  .meth "Builder" "seek",
  .meth "ToUniversal" "entry",
  .meth "ToUniversal" "signs",
  .meth "ToUniversal" "picture",
  .meth "ToUniversal" "read_back",
  .meth "ToUniversal" "steps_to_home",
  .meth "ToUniversal" "cost",
  .meth "ToUniversal" "last_steps",
  .free "len",
  .free "range",
  .free "list",
  .free "tuple",
  .free "isinstance",
  .free "zip",
  .free "max",
  .free "sorted",
  .free "abs",
  .free "int",
  .free "all",
  .free "bool",
  .free "str",
  .int "BLANK" 0,
  .int "MOST_STATES_turing" 20000,
  .int "MOST_SYMBOLS_turing" 400,
  .int "MOST_STATES_universal" 40,
  .int "NOTHING" 0,
  .int "OPEN" 1,
  .int "CLOSE" 2,
  .int "ROW" 3,
  .int "ACTIVE" 4,
  .int "UNIT" 5,
  .int "MARKED" 6,
  .int "ZERO" 7,
  .int "ONE" 8,
  .int "LEFT" 9,
  .int "STAY" 10,
  .int "RIGHT" 11,
  .int "COMMA" 12,
  .int "MISSING" 13,
  .int "SIGNS" 14]
def loose0 : List Str := [("_wall" : Str), ("TranslatoryError" : Str), ("InvalidMachine" : Str), ("NotFitting" : Str), ("BLANK" : Str), ("MOST_STATES_turing" : Str), ("MOST_SYMBOLS_turing" : Str), ("stripped" : Str), ("Turing" : Str), ("moved" : Str), ("MOST_STATES_universal" : Str), ("NOTHING" : Str), ("OPEN" : Str), ("CLOSE" : Str), ("ROW" : Str), ("ACTIVE" : Str), ("UNIT" : Str), ("MARKED" : Str), ("ZERO" : Str), ("ONE" : Str), ("LEFT" : Str), ("STAY" : Str), ("RIGHT" : Str), ("COMMA" : Str), ("MISSING" : Str), ("SIGNS" : Str), ("MOVES" : Str), ("Builder" : Str), ("write_reading" : Str), ("write_writing" : Str), ("write_choosing" : Str), ("write_moving" : Str), ("universal" : Str), ("ToUniversal" : Str), ("MOST_FRACTIONS" : Str)]
def loose1 : List Str := [("common_divisor" : Str), ("Fractions" : Str), ("MOST_REGISTERS" : Str), ("MOST_INSTRUCTIONS" : Str), ("Registers" : Str), ("MOST_RULES" : Str), ("Strings" : Str), ("MOST_SYMBOLS_tags" : Str), ("Tags" : Str), ("_law_cell" : Str), ("_law_draws" : Str), ("_law_like" : Str), ("_law_strip" : Str), ("_law_rules" : Str), ("_law_tape" : Str), ("_law_turing_step" : Str), ("_law_table" : Str), ("_law_registers_step" : Str), ("_law_fractions_step" : Str), ("_law_tags_step" : Str), ("_law_strings_step" : Str), ("_law_term_step" : Str), ("_law_runner" : Str), ("_law_go" : Str), ("_law_many" : Str), ("_law_follows" : Str), ("_law_is_count" : Str), ("_law_drawn_turing" : Str)]
def loose : List Str := loose0 ++ loose1
/-- MOVES, as the top has laid it -/
def mvB (K : PySem.W.Frag) : Bool := match K.lookup (He.ga K "MOVES") with
  | some ⟨.type c, none, .dict es _, sl⟩ => decide (c = "dict") && (sl.isEmpty && (!(He.ga K "MOVES" == sysModules) && (match es.toList with
    | [e1, e2, e3] => (match e1.key, e2.key, e3.key with
      | .int i1 _, .int i2 _, .int i3 _ => decide (i1 = 9) && (decide (i2 = 10) && decide (i3 = 11))
      | _, _, _ => false)
    | _ => false)))
  | _ => false
/-- isinstance of a Turing -/
def isB (K : PySem.W.Frag) : Bool := decide (PySem.W.kitOne K (.ref (He.ga K "Turing")) (.ref (He.ga K "Turing")) = some true) && (He.eqO (PySem.W.findIn K (.ref (He.ga K "Turing")) "__class__") (some (some (.builtin "object.__class__"))) &&
  (He.eqO (PySem.W.specialIn K (.builtin "object.__class__") "__get__") (some (some (.builtin "getset_descriptor.__get__"))) && (decide (PySem.W.takesIn K (.builtin "object.__class__") = some true) && decide (PySem.W.mroIn K (He.ga K "Turing") (.type "object") = some true))))
def exB (K : PySem.W.Frag) : Bool := mvB K && isB K
abbrev AlZ : Type := He.AlD × Bool
def obsZ (g : Addr → Option Obj) : AlZ := (He.obsD fa fn (He.frG g (He.asD g 5)), exB (He.frG g (He.asD g 5)))
def SaysZ (K : PySem.W.Frag) : Prop := He.SaysD fa fn K ∧ exB K = true
def hk : PySem.W.Hook where
  α := AlZ
  obs := fun s => obsZ s.heap.get?
  val := fun _ => (He.valD fn, true)
  says := fun _ h => ∃ K : PySem.W.Frag, K.In h ∧ SaysZ K
  of := fun _ _ e => ⟨_, He.frG_in, congrArg (fun z : AlZ => z.1) e, congrArg (fun z : AlZ => z.2) e⟩
  keeps := fun _ _ _ ⟨K, hK, c⟩ k => ⟨K, PySem.W.Frag.In.keeps hK k, c⟩
abbrev R : PySem.W.OpenRow := PySem.W.OpenLaw.row PySem.Challenge.rw_translatory_k44_whole_the_universal_mach
def ob (s : PySem.W.SharedT) : AlZ := obsZ (HandSHeadRun.getT s)
theorem ob_eq (s : PySem.W.SharedT) : ob s = hk.obs s.abs := by
  have e : HandSHeadRun.getT s = s.abs.heap.get? := funext (HandSHeadRun.getT_eq s)
  show obsZ (HandSHeadRun.getT s) = obsZ s.abs.heap.get?
  rw [e]
theorem run0 (w : World) : HandSHeadRun.RunEq R (PySem.W.view R.prog [71]) hk ob 6000 loose (w.withFollow "special-get-raises" false) := by
  intro os
  kernel_rfl
theorem run1 (w : World) : HandSHeadRun.RunEq R (PySem.W.view R.prog [71]) hk ob 6000 loose (w.withFollow "special-get-raises" true) := by
  intro os
  kernel_rfl
theorem run (w : World) : HandSHeadRun.RunEq R (PySem.W.view R.prog [71]) hk ob 6000 loose w :=
  PySem.W.byRow2 "special-get-raises" (P := fun w => HandSHeadRun.RunEq R (PySem.W.view R.prog [71]) hk ob 6000 loose w) run0 run1 w
end TH
/-! What the walks lean on: the top's facts (Tx), callables with their promises (Cal, Met, Mak), short rules. -/
namespace TH
open PySem PySem.Spec PyProof.Rows L2
abbrev CT (K : PySem.W.Frag) : Addr := He.ga K "Turing"
abbrev CB (K : PySem.W.Frag) : Addr := He.ga K "Builder"
abbrev CU (K : PySem.W.Frag) : Addr := He.ga K "ToUniversal"
abbrev DM (K : PySem.W.Frag) : Addr := He.ga K "MOVES"
structure Tx (K : PySem.W.Frag) (mg : Str → Option Value) : Prop where
  i_BLANK : ∃ t, mg "BLANK" = some (.int 0 t)
  i_MOST_STATES_turing : ∃ t, mg "MOST_STATES_turing" = some (.int 20000 t)
  i_MOST_SYMBOLS_turing : ∃ t, mg "MOST_SYMBOLS_turing" = some (.int 400 t)
  i_MOST_STATES_universal : ∃ t, mg "MOST_STATES_universal" = some (.int 40 t)
  i_NOTHING : ∃ t, mg "NOTHING" = some (.int 0 t)
  i_OPEN : ∃ t, mg "OPEN" = some (.int 1 t)
  i_CLOSE : ∃ t, mg "CLOSE" = some (.int 2 t)
  i_ROW : ∃ t, mg "ROW" = some (.int 3 t)
  i_ACTIVE : ∃ t, mg "ACTIVE" = some (.int 4 t)
  i_UNIT : ∃ t, mg "UNIT" = some (.int 5 t)
  i_MARKED : ∃ t, mg "MARKED" = some (.int 6 t)
  i_ZERO : ∃ t, mg "ZERO" = some (.int 7 t)
  i_ONE : ∃ t, mg "ONE" = some (.int 8 t)
  i_LEFT : ∃ t, mg "LEFT" = some (.int 9 t)
  i_STAY : ∃ t, mg "STAY" = some (.int 10 t)
  i_RIGHT : ∃ t, mg "RIGHT" = some (.int 11 t)
  i_COMMA : ∃ t, mg "COMMA" = some (.int 12 t)
  i_MISSING : ∃ t, mg "MISSING" = some (.int 13 t)
  i_SIGNS : ∃ t, mg "SIGNS" = some (.int 14 t)
  f_len : mg "len" = none
  f_range : mg "range" = none
  f_list : mg "list" = none
  f_tuple : mg "tuple" = none
  f_isinstance : mg "isinstance" = none
  f_zip : mg "zip" = none
  f_max : mg "max" = none
  f_sorted : mg "sorted" = none
  f_abs : mg "abs" = none
  f_int : mg "int" = none
  f_all : mg "all" = none
  f_bool : mg "bool" = none
  f_str : mg "str" = none
  c_Turing : Cls K (He.ga K "Turing")
  g_Turing : mg "Turing" = some (.ref (He.ga K "Turing"))
  c_Builder : Cls K (He.ga K "Builder")
  g_Builder : mg "Builder" = some (.ref (He.ga K "Builder"))
  c_ToUniversal : Cls K (He.ga K "ToUniversal")
  g_ToUniversal : mg "ToUniversal" = some (.ref (He.ga K "ToUniversal"))
  n_Turing_states : NoAttr K (He.ga K "Turing") "states"
  n_Turing_symbols : NoAttr K (He.ga K "Turing") "symbols"
  n_Turing_table : NoAttr K (He.ga K "Turing") "table"
  n_Turing_rules : NoAttr K (He.ga K "Turing") "rules"
  n_Builder_numbers : NoAttr K (He.ga K "Builder") "numbers"
  n_Builder_rules : NoAttr K (He.ga K "Builder") "rules"
  n_ToUniversal_source : NoAttr K (He.ga K "ToUniversal") "source"
  n_ToUniversal_target : NoAttr K (He.ga K "ToUniversal") "target"
  n_ToUniversal_rows : NoAttr K (He.ga K "ToUniversal") "rows"
  g_MOVES : mg "MOVES" = some (.ref (DM K))
  mv : KInts K (DM K) [9, 10, 11]
  isT : PySem.W.kitOne K (.ref (CT K)) (.ref (CT K)) = some true
  isC : PySem.W.findIn K (.ref (CT K)) "__class__" = some (some (.builtin "object.__class__"))
  isS : PySem.W.specialIn K (.builtin "object.__class__") "__get__" = some (some (.builtin "getset_descriptor.__get__"))
  isK : PySem.W.takesIn K (.builtin "object.__class__") = some true
  isM : PySem.W.mroIn K (CT K) (.type "object") = some true
theorem Tx.ty {K : PySem.W.Frag} {mg : Str → Option Value} (T : Tx K mg) {H : Hp} {a dx : Addr} {fs : List (Str × V)} (h : H a = some (.ins (CT K) dx fs)) : TyX K H (.ref a) (.ref (CT K)) := .base (.ins h T.c_Turing T.isC T.isS T.isK T.isM)
/-- a def that may be called by its name, at most k deep -/
def Cal (P : Program) (w : World) (K : PySem.W.Frag) (mg : Str → Option Value) (base : Heap) (k : Nat) (x : Str) (ps : List Str) (sp : Sp) : Prop :=
  ∃ (f : Addr) (fd : FuncData), FnOk P w K mg base CX0 k f fd ps sp ∧ mg x = some (.ref f) ∧ PySem.W.keepIn K (.ref f) = true ∧ Binds K fd ps []
def Met (P : Program) (w : World) (K : PySem.W.Frag) (mg : Str → Option Value) (base : Heap) (k : Nat) (C : Addr) (m : Str) (ps : List Str) (sp : Sp) : Prop :=
  ∃ (f : Addr) (fd : FuncData), FnOk P w K mg base CX0 k f fd ps sp ∧ Meth K C m f ∧ Binds K fd ps []
def Mak (P : Program) (w : World) (K : PySem.W.Frag) (mg : Str → Option Value) (base : Heap) (k : Nat) (C : Addr) (x : Str) (ps : List Str) (sp : Sp) : Prop :=
  ∃ (f : Addr) (fd : FuncData), FnOk P w K mg base CX0 k f fd ps sp ∧ Mk K C f ∧ mg x = some (.ref C) ∧ Binds K fd ps []
section
variable {X : Cx} {e : Expr} {es : List Expr} {te : TE} {t : TA} {pos p : Pos} {x : Str} {k : Nat} {ps : List Str} {sp : Sp}
theorem pe_gint {i : Int} (hg : Gl X x) (hm : ∃ t, X.mg x = some (.int i t)) (hd : (x == ("__debug__" : Str)) = false := by decide) : PE X (.Name x pos) (tC (.int i)) := by
  obtain ⟨t, h⟩ := hm
  exact pe_glob hg h ⟨t, rfl⟩ hd
theorem pe_gref {a : Addr} (hg : Gl X x) (hm : X.mg x = some (.ref a)) (hd : (x == ("__debug__" : Str)) = false := by decide) : PE X (.Name x pos) (tC (.ref a)) := pe_glob hg hm rfl hd
theorem pe_ty {n : String} (hg : Gl X x) (hm : X.mg x = none) (hv : bootBuiltins x = some (.type n)) (hn : x ≠ "__name__" := by decide) (hd : (x == ("__debug__" : Str)) = false := by decide) : PE X (.Name x pos) (tC (.ty n)) := pe_bltn hg hm hv rfl hn hd
theorem pe_callC (G : Cal X.prog X.w X.K X.mg X.base k x ps sp) (hr : Room k X.A) (hg : Gl X x) (ha : PA X (e :: es) t) (hdb : (x == ("__debug__" : Str)) = false := by decide)
    (he : starEach (e :: es) X.env = (false, eval e X.env) :: starEach es X.env := by rfl) (hpl : (backTo pos (starEach es X.env)).any (·.1) = false := by rfl) : PE X (.Call (.Name x p) (e :: es) [] pos) (tCall sp [] E0 t) := by
  obtain ⟨f, fd, F, m, kp, b⟩ := G
  exact pe_call F hr hg m kp b .nil pass0 ha hdb he hpl
theorem pe_callC0 (G : Cal X.prog X.w X.K X.mg X.base k x ps sp) (hr : Room k X.A) (hg : Gl X x) (hdb : (x == ("__debug__" : Str)) = false := by decide) : PE X (.Call (.Name x p) [] [] pos) (tCall sp [] E0 tNil) := by
  obtain ⟨f, fd, F, m, kp, b⟩ := G
  exact pe_call0 F hr hg m kp b .nil pass0 hdb
theorem pe_makeC {C : Addr} (G : Mak X.prog X.w X.K X.mg X.base k C x ps sp) (hr : Room (k + 1) X.A) (hg : Gl X x) (ha : PA X (e :: es) t) (hdb : (x == ("__debug__" : Str)) = false := by decide)
    (he : starEach (e :: es) X.env = (false, eval e X.env) :: starEach es X.env := by rfl) (hpl : (backTo pos (starEach es X.env)).any (·.1) = false := by rfl) : PE X (.Call (.Name x p) (e :: es) [] pos) (tMake C sp [] E0 t) := by
  obtain ⟨f, fd, F, M, m, b⟩ := G
  exact pe_make M F hr hg m b .nil pass0 ha hdb he hpl
theorem pe_makeC0 {C : Addr} (G : Mak X.prog X.w X.K X.mg X.base k C x ps sp) (hr : Room (k + 1) X.A) (hg : Gl X x) (hdb : (x == ("__debug__" : Str)) = false := by decide) : PE X (.Call (.Name x p) [] [] pos) (tMake C sp [] E0 tNil) := by
  obtain ⟨f, fd, F, M, m, b⟩ := G
  exact pe_make0 M F hr hg m b .nil pass0 hdb
end
section
variable {X : Cx} {e o : Expr} {es : List Expr} {ta : TE} {t : TA} {pos apos : Pos} {m : Str} {k : Nat} {ps : List Str} {sp : Sp} {C : Addr}
theorem pe_methC {pl : Sem Bool} (he : PE X o ta) (c : Cls X.K C) (G : Met X.prog X.w X.K X.mg X.base k C m ps sp) (hr : Room k X.A) (ha : PA X (e :: es) t)
    (hst : starEach (e :: es) X.env = (false, eval e X.env) :: starEach es X.env := by rfl) (hpl : (backTo pos (starEach es X.env)).any (·.1) = false := by rfl)
    (ht : eval (.Call (.Attribute o m apos) (e :: es) [] pos) X.env = (do
      let ov ← eval o X.env
      standAt apos.atName
      let (f, first) ← holding [ov] (getMethod ov m pl)
      callWith pos f first (backTo pos (starEach (e :: es) X.env)) (backToKw pos (keywordEach [] X.env))) := by rfl) :
    PE X (.Call (.Attribute o m apos) (e :: es) [] pos) (tMeth C m sp [] E0 ta t) := by
  obtain ⟨f, fd, F, M, b⟩ := G
  exact pe_meth he c M F hr b .nil pass0 ha hst hpl ht
end
/-- a def as the top has it -/
abbrev FnP (K : PySem.W.Frag) (d : He.DefD) (f : Addr) (fd : FuncData) : Prop := FunD K d.name d.qual d.params d.body d.scope [] [] f fd
theorem cal_of {P : Program} {w : World} {K : PySem.W.Frag} {mg : Str → Option Value} {base : Heap} {k : Nat} {d : He.DefD} {f : Addr} {fd : FuncData} {ps : List Str} {sp : Sp} (F : FnP K d f fd) (G : FnOk P w K mg base CX0 k f fd ps sp) (m : mg d.name = some (.ref f)) (b : Binds K fd ps []) : Cal P w K mg base k d.name ps sp :=
  ⟨f, fd, G, m, F.kp, b⟩
/-- a text's truth in an if -/
theorem iteB {c : Bool} {A B : Prop} (h1 : c = true → A) (h2 : c = false → B) : if c = true then A else B := by
  cases c with
  | true => exact iteT (h1 rfl)
  | false => exact iteF (h2 rfl)
end TH
/-! How the program's data stand in the heap. -/
namespace TH
open PySem PySem.Spec PyProof.Rows L2 UM
abbrev vI (n : Nat) : V := .int (n : Int)
abbrev vIs (ns : List Nat) : List V := ns.map fun (n : Nat) => V.int (n : Int)
/-- a tuple of numbers -/
def TupI (H : Hp) (v : V) (ns : List Nat) : Prop := ∃ p, v = .ref p ∧ H p = some (.tup (vIs ns))
theorem TupI.same {H H' : Hp} {v : V} {ns : List Nat} (h : TupI H v ns) (s : Same H H') : TupI H' v ns := let ⟨p, e, q⟩ := h; ⟨p, e, s _ _ q⟩
def CfgAt (H : Hp) (v : V) (c : Cfg) : Prop := ∃ p lv rv, v = .ref p ∧ H p = some (.tup [vI c.st, lv, vI c.h, rv]) ∧ TupI H lv c.l ∧ TupI H rv c.r
theorem CfgAt.same {H H' : Hp} {v : V} {c : Cfg} (h : CfgAt H v c) (s : Same H H') : CfgAt H' v c := let ⟨p, l, r, e, q, a, b⟩ := h; ⟨p, l, r, e, s _ _ q, a.same s, b.same s⟩
/-- the values of a rule -/
abbrev rowV (r : Rul) : List V := [vI r.1, vI r.2.1, vI r.2.2.1, .int r.2.2.2.1, vI r.2.2.2.2]
def RulesOf (H : Hp) (ts : List Addr) (rs : List Rul) : Prop := Paired (fun t r => H t = some (.tup (rowV r))) ts rs
theorem RulesOf.same {H H' : Hp} {ts : List Addr} {rs : List Rul} (h : RulesOf H ts rs) (s : ∀ b xs, H b = some (.tup xs) → H' b = some (.tup xs)) : RulesOf H' ts rs := Paired.mapP h fun _ _ q => s _ _ q
def RulesL (H : Hp) (v : V) (rs : List Rul) : Prop := ∃ p ts, v = .ref p ∧ H p = some (.lst (ts.map V.ref)) ∧ RulesOf H ts rs
def RulesT (H : Hp) (v : V) (rs : List Rul) : Prop := ∃ p ts, v = .ref p ∧ H p = some (.tup (ts.map V.ref)) ∧ RulesOf H ts rs
theorem RulesL.same {H H' : Hp} {v : V} {rs : List Rul} (h : RulesL H v rs) (s : Same H H') : RulesL H' v rs := let ⟨p, ts, e, q, a⟩ := h; ⟨p, ts, e, s _ _ q, a.same fun b xs => s b _⟩
theorem RulesT.same {H H' : Hp} {v : V} {rs : List Rul} (h : RulesT H v rs) (s : Same H H') : RulesT H' v rs := let ⟨p, ts, e, q, a⟩ := h; ⟨p, ts, e, s _ _ q, a.same fun b xs => s b _⟩
/-! ### tables -/
abbrev kyK (s a : Nat) : List Key := [Sum.inl (s : Int), Sum.inl (a : Int)]
abbrev actV (x : Nat × Int × Nat) : List V := [vI x.1, .int x.2.1, vI x.2.2]
def KvsOf (H : Hp) (kvs : List (List Key × V)) (rs : List Rul) : Prop := Paired (fun kv r => kv.1 = kyK r.1 r.2.1 ∧ ∃ t, kv.2 = V.ref t ∧ H t = some (.tup (actV r.2.2))) kvs rs
def TabAt (H : Hp) (v : V) (rs : List Rul) : Prop := ∃ p kvs, v = .ref p ∧ H p = some (.dT kvs) ∧ KvsOf H kvs rs
theorem KvsOf.same {H H' : Hp} {kvs : List (List Key × V)} {rs : List Rul} (h : KvsOf H kvs rs) (s : ∀ b xs, H b = some (.tup xs) → H' b = some (.tup xs)) : KvsOf H' kvs rs := Paired.mapP h fun _ _ ⟨e, t, e2, q⟩ => ⟨e, t, e2, s _ _ q⟩
theorem TabAt.same {H H' : Hp} {v : V} {rs : List Rul} (h : TabAt H v rs) (s : Same H H') : TabAt H' v rs := let ⟨p, kvs, e, q, a⟩ := h; ⟨p, kvs, e, s _ _ q, a.same fun b xs => s b _⟩
theorem kyK_inj {s a s' a' : Nat} (h : kyK s a = kyK s' a') : s = s' ∧ a = a' := by
  obtain ⟨h1, h2⟩ := List.cons.inj h
  obtain ⟨h3, _⟩ := List.cons.inj h2
  have e1 := Sum.inl.inj h1
  have e2 := Sum.inl.inj h3
  exact ⟨by omega, by omega⟩
theorem KvsOf.get {H : Hp} {kvs : List (List Key × V)} {rs : List Rul} (h : KvsOf H kvs rs) (s a : Nat) :
    (tabOf rs s a = none ∧ valV kvs (kyK s a) = none) ∨ ∃ x t, tabOf rs s a = some x ∧ valV kvs (kyK s a) = some (.ref t) ∧ H t = some (.tup (actV x)) := by
  unfold KvsOf at h
  induction h with
  | nil => exact .inl ⟨rfl, rfl⟩
  | @cons kv r kvs rs hr ht ih =>
    obtain ⟨e, t, e2, q⟩ := hr
    by_cases hk : r.1 = s ∧ r.2.1 = a
    · refine .inr ⟨r.2.2, t, ?_, ?_, q⟩
      · unfold tabOf
        rw [List.find?_cons_of_pos (by rw [Bool.and_eq_true, beq_iff_eq, beq_iff_eq]; exact hk)]
        rfl
      · rw [valV_pos (by rw [e, hk.1, hk.2]), e2]
    · have n1 : ¬ kv.1 = kyK s a := fun z => hk (kyK_inj (e.symm.trans z))
      have n2 : tabOf (r :: rs) s a = tabOf rs s a := by
        unfold tabOf
        rw [List.find?_cons_of_neg]
        intro z
        rw [Bool.and_eq_true, beq_iff_eq, beq_iff_eq] at z
        exact hk z
      rw [n2, valV_neg n1]
      exact ih
theorem KvsOf.length {H : Hp} {kvs : List (List Key × V)} {rs : List Rul} (h : KvsOf H kvs rs) : kvs.length = rs.length := Paired.length h
theorem RulesOf.length {H : Hp} {ts : List Addr} {rs : List Rul} (h : RulesOf H ts rs) : ts.length = rs.length := Paired.length h
theorem RulesOf.get {H : Hp} {ts : List Addr} {rs : List Rul} (h : RulesOf H ts rs) {i : Nat} {r : Rul} (hi : rs[i]? = some r) : ∃ t, ts[i]? = some t ∧ H t = some (.tup (rowV r)) := by
  unfold RulesOf at h
  induction h generalizing i with
  | nil => simp at hi
  | @cons t r' ts rs hr ht ih =>
    cases i with
    | zero =>
      have e : r' = r := by simpa using hi
      exact ⟨t, rfl, e ▸ hr⟩
    | succ i =>
      obtain ⟨t', h1, h2⟩ := ih (i := i) (by simpa using hi)
      exact ⟨t', by simpa using h1, h2⟩
/-! ### machines -/
abbrev fT (n k : Nat) (tb ru : V) : List (Str × V) := [("states", vI n), ("symbols", vI k), ("table", tb), ("rules", ru)]
def TurAt (K : PySem.W.Frag) (H : Hp) (v : V) (n k : Nat) (rs : List Rul) : Prop := ∃ p dx tb ru rs', v = .ref p ∧ H p = some (.ins (CT K) dx (fT n k tb ru)) ∧ TabAt H tb rs ∧ RulesT H ru rs' ∧ rs'.Perm rs ∧ (rs.map key).Nodup ∧ rs.length ≤ 5000
theorem TurAt.same {K : PySem.W.Frag} {H H' : Hp} {v : V} {n k : Nat} {rs : List Rul} (h : TurAt K H v n k rs) (s : Same H H') : TurAt K H' v n k rs :=
  let ⟨p, dx, tb, ru, rs', e, q, a, b, c⟩ := h; ⟨p, dx, tb, ru, rs', e, s _ _ q, a.same s, b.same s, c⟩
theorem fT_states {n k : Nat} {tb ru : V} : (fT n k tb ru).lookup ("states" : Str) = some (vI n) := by rfl
theorem fT_symbols {n k : Nat} {tb ru : V} : (fT n k tb ru).lookup ("symbols" : Str) = some (vI k) := by rfl
theorem fT_table {n k : Nat} {tb ru : V} : (fT n k tb ru).lookup ("table" : Str) = some tb := by rfl
theorem fT_rules {n k : Nat} {tb ru : V} : (fT n k tb ru).lookup ("rules" : Str) = some ru := by rfl
theorem fT_put {n k : Nat} {tb ru : V} : putF "rules" ru (putF "table" tb (putF "symbols" (vI k) (putF "states" (vI n) []))) = fT n k tb ru := by rfl
/-! ### the builder -/
def nameK : Q → List Key
  | .home => [.inr "home"]
  | .find d => [.inr "find", .inl (d : Int)]
  | .entry d => [.inr "entry", .inl (d : Int)]
  | .second => [.inr "second"]
  | .move w d => [.inr "move", .inl (w : Int), .inl (d : Int)]
  | .write w s d => [.inr "write", .inl (w : Int), .inl (s : Int), .inl (d : Int)]
  | .again s d => [.inr "again", .inl (s : Int), .inl (d : Int)]
  | .skip s d => [.inr "skip", .inl (s : Int), .inl (d : Int)]
  | .over s => [.inr "over", .inl (s : Int)]
  | .units s => [.inr "units", .inl (s : Int)]
  | .unmark s => [.inr "unmark", .inl (s : Int)]
  | .left s => [.inr "left", .inl (s : Int)]
  | .first s => [.inr "first", .inl (s : Int)]
  | .seek s => [.inr "seek", .inl (s : Int)]
  | .rewind s => [.inr "rewind", .inl (s : Int)]
  | .active s => [.inr "active", .inl (s : Int)]
  | .next s => [.inr "next", .inl (s : Int)]
  | .restart s => [.inr "restart", .inl (s : Int)]
  | .homeward => [.inr "homeward"]
  | .begin_ => [.inr "begin"]
  | .right c => [.inr "right", .inl (c : Int)]
  | .carry c => [.inr "left", .inr "carry", .inl (c : Int)]
def deK (k : List Key) : Option Q := match k with
  | [.inr a] => if a = "home" then some .home else if a = "second" then some .second else if a = "homeward" then some .homeward else if a = "begin" then some .begin_ else none
  | [.inr a, .inl x] => if a = "find" then some (.find x.toNat) else if a = "entry" then some (.entry x.toNat) else if a = "over" then some (.over x.toNat) else if a = "units" then some (.units x.toNat)
    else if a = "unmark" then some (.unmark x.toNat) else if a = "left" then some (.left x.toNat) else if a = "first" then some (.first x.toNat) else if a = "seek" then some (.seek x.toNat)
    else if a = "rewind" then some (.rewind x.toNat) else if a = "active" then some (.active x.toNat) else if a = "next" then some (.next x.toNat) else if a = "restart" then some (.restart x.toNat)
    else if a = "right" then some (.right x.toNat) else none
  | [.inr a, .inl x, .inl y] => if a = "move" then some (.move x.toNat y.toNat) else if a = "again" then some (.again x.toNat y.toNat) else if a = "skip" then some (.skip x.toNat y.toNat) else none
  | [.inr a, .inl x, .inl y, .inl z] => some (.write x.toNat y.toNat z.toNat)
  | [.inr a, .inr b, .inl x] => some (.carry x.toNat)
  | _ => none
theorem deK_name (q : Q) : deK (nameK q) = some q := by cases q <;> rfl
theorem nameK_inj {q q' : Q} (h : nameK q = nameK q') : q = q' := by
  have := congrArg deK h
  rw [deK_name, deK_name] at this
  exact Option.some.inj this
def numsV (l : List (Q × Nat)) : List (List Key × V) := l.map fun x => (nameK x.1, vI x.2)
theorem numsV_get (l : List (Q × Nat)) (q : Q) : valV (numsV l) (nameK q) = (l.lookup q).map vI := by
  induction l with
  | nil => rfl
  | cons a l ih =>
    show valV ((nameK a.1, vI a.2) :: numsV l) (nameK q) = _
    rw [List.lookup_cons]
    by_cases h : q = a.1
    · rw [h, beq_self_eq_true, valV_pos rfl]
      rfl
    · rw [beq_false_of_ne h, valV_neg (fun z => h (nameK_inj z).symm), ih]
theorem numsV_len (l : List (Q × Nat)) : (numsV l).length = l.length := List.length_map _
/-- the builder: its dict at d, its list at l -/
structure BldAt (K : PySem.W.Frag) (H : Hp) (v : V) (d l : Addr) (b : BS) : Prop where
  ex : ∃ p dx ts, v = .ref p ∧ H p = some (.ins (CB K) dx [("numbers", .ref d), ("rules", .ref l)]) ∧ H d = some (.dT (numsV b.nums)) ∧ H l = some (.lst (ts.map V.ref)) ∧ RulesOf H ts b.rules
/-- all but the builder's two objects as it was -/
def But (d l : Addr) (H H' : Hp) : Prop := ∀ b o, H b = some o → b ≠ d → b ≠ l → H' b = some o
theorem But.refl {d l : Addr} {H : Hp} : But d l H H := fun _ _ h _ _ => h
theorem But.trans {d l : Addr} {H H1 H2 : Hp} (a : But d l H H1) (b : But d l H1 H2) : But d l H H2 := fun c o h x y => b c o (a c o h x y) x y
theorem But.of {d l : Addr} {H H' : Hp} (s : Same H H') : But d l H H' := fun b o h _ _ => s b o h
theorem BldAt.same {K : PySem.W.Frag} {H H' : Hp} {v : V} {d l : Addr} {b : BS} (h : BldAt K H v d l b) (s : Same H H') : BldAt K H' v d l b :=
  let ⟨p, dx, ts, e, q1, q2, q3, q4⟩ := h.ex; ⟨p, dx, ts, e, s _ _ q1, s _ _ q2, s _ _ q3, q4.same fun b xs => s b _⟩
theorem But.tup {K : PySem.W.Frag} {H H' : Hp} {v : V} {d l a : Addr} {b : BS} {xs : List V} (f : But d l H H') (h : BldAt K H v d l b) (t : H a = some (.tup xs)) : H' a = some (.tup xs) := by
  obtain ⟨p, dx, ts, e, q1, q2, q3, q4⟩ := h.ex
  exact f _ _ t (ne_of t q2 fun z => nomatch z) (ne_of t q3 fun z => nomatch z)
theorem But.lst {K : PySem.W.Frag} {H H' : Hp} {v : V} {d l a : Addr} {b : BS} {xs : List V} (f : But d l H H') (h : BldAt K H v d l b) (t : H a = some (.lst xs)) (n : a ≠ l) : H' a = some (.lst xs) := by
  obtain ⟨p, dx, ts, e, q1, q2, q3, q4⟩ := h.ex
  exact f _ _ t (ne_of t q2 fun z => nomatch z) n
theorem BldAt.add {K : PySem.W.Frag} {H : Hp} {d l p dx t : Addr} {ts : List Addr} {b : BS} {r : Rul} (h1 : H p = some (.ins (CB K) dx [("numbers", .ref d), ("rules", .ref l)])) (h2 : H d = some (.dT (numsV b.nums))) (h3 : H l = some (.lst (ts.map V.ref)))
    (h4 : RulesOf H ts b.rules) (ht : H t = some (.tup (rowV r))) : BldAt K (upd H l (.lst (ts.map V.ref ++ [.ref t]))) (.ref p) d l (addB b r) ∧ But d l H (upd H l (.lst (ts.map V.ref ++ [.ref t]))) := by
  have npl : p ≠ l := ne_of h1 h3 (fun z => nomatch z)
  have ndl : d ≠ l := ne_of h2 h3 (fun z => nomatch z)
  unfold addB
  refine ⟨⟨⟨p, dx, ts ++ [t], rfl, by rw [upd_ne npl]; exact h1, by rw [upd_ne ndl]; exact h2, by rw [upd_same, List.map_append]; rfl, ?_⟩⟩, fun b o e _ n => by rw [upd_ne n]; exact e⟩
  exact Paired.snoc (h4.same fun c xs hc => by rw [upd_ne (ne_of hc h3 fun z => nomatch z)]; exact hc) (show upd H l _ t = _ by rw [upd_ne (ne_of ht h3 fun z => nomatch z)]; exact ht)
theorem same_new {H : Hp} {p : Addr} {o : HO} (h : H p = none) : Same H (upd H p o) := fun b u e => by rw [upd_ne (ne_of_none e h)]; exact e
theorem same_seq2 {H H1 : Hp} {p : Addr} {o : HO} (s : Same H H1) (h : H1 p = none) : Same H (upd H1 p o) := s.trans (same_new h)
theorem vIs_get {ns : List Nat} {i : Nat} {x : V} (h : (vIs ns)[i]? = some x) : ∃ n, ns[i]? = some n ∧ x = vI n := by
  rw [List.getElem?_map] at h
  cases e : ns[i]? with
  | none =>
    rw [e] at h
    cases h
  | some n =>
    rw [e] at h
    exact ⟨n, rfl, (Option.some.inj h).symm⟩
theorem vIs_len (ns : List Nat) : (vIs ns).length = ns.length := List.length_map _
theorem vIs_snoc (ns : List Nat) (n : Nat) : vIs (ns ++ [n]) = vIs ns ++ [vI n] := List.map_append
theorem vI_eq {a : Int} {b : Nat} (h : a = (b : Int)) : V.int a = vI b := by rw [h]
end TH
/-! The builder's methods. -/
namespace TH
open PySem PySem.Spec PyProof.Rows L2 UM
section
variable {P : Program} {w : World} {K : PySem.W.Frag} {mg : Str → Option Value} {base : Heap}
def spBInit (K : PySem.W.Frag) : Sp := fun vs H Q _ => ∃ (p dx : Addr), vs = [.ref p] ∧ H p = some (.ins (CB K) dx []) ∧
  ∀ (H' : Hp) (d l : Addr), H d = none → H l = none → BldAt K H' (.ref p) d l startB → (∀ b o, H b = some o → b ≠ p → H' b = some o) → Q .non H'
abbrev sc_binitN : List Str := ["self"]
theorem sc_binit : FnScope sc_binitN ["self"] (defScope s_Builder_init) := ⟨rfl, rfl, rfl, by decide +kernel, rfl, by decide +kernel, by decide +kernel⟩
theorem ok_binit {f : Addr} {fd : FuncData} (F : FnP K d_Builder_init f fd) (T : Tx K mg) : FnOk P w K mg base CX0 1 f fd ["self"] (spBInit K) := by
  refine F.ok sc_binit (fun vs H Q E h => ?_) (fun cdv A outer s H vs Q E hr h => ?_)
  · obtain ⟨p, dx, rfl, _⟩ := h
    rfl
  · obtain ⟨p, dx, rfl, hp, k⟩ := h
    have hu := hu_of hr
    refine ⟨_, PSs.nox (pss_cons (ps_fld (pv 0) (pe_disT hu (pe_tup (pa_cons pe_str pa_nil)) pe_int) rfl)
      (pss_one (ps_fld (pv 0) (pe_lst pa_nil) rfl))), ?_⟩
    intro d hd
    have npd : p ≠ d := ne_of_none hp hd
    refine ⟨by decide, fun t ht => ?_⟩
    have ntd : t ≠ d := fun z => by
      rw [z, upd_same] at ht
      cases ht
    have npt : p ≠ t := fun z => by
      rw [← z, upd_ne npd, hp] at ht
      cases ht
    refine ⟨nameK .home, t, (by rw [upd_ne ntd.symm, upd_same]), rfl, upd_same, ?_⟩
    refine ⟨_, rfl, p, CB K, dx, [], rfl, (by rw [upd_ne npd, upd_ne npt, upd_ne npd]; exact hp), T.c_Builder, T.n_Builder_numbers, (by show 0 < 1000; decide), ?_⟩
    refine ⟨by decide, fun l hl => ?_⟩
    have npl : p ≠ l := fun z => by
      rw [z, upd_same] at hl
      cases hl
    have ndl : d ≠ l := fun z => by
      rw [← z, upd_ne npd.symm, upd_same] at hl
      cases hl
    have nlt : l ≠ t := fun z => by
      rw [z, upd_ne npt.symm, upd_ne ntd, upd_same] at hl
      cases hl
    have hl0 : H l = none := by
      rw [upd_ne npl.symm, upd_ne ndl.symm, upd_ne nlt, upd_ne ndl.symm] at hl
      exact hl
    refine ⟨_, rfl, p, CB K, dx, _, rfl, (by rw [upd_ne npl, upd_same]), T.c_Builder, T.n_Builder_rules, (by show 1 < 1000; decide), ?_⟩
    refine k _ d l hd hl0 ⟨⟨p, dx, [], rfl, upd_same, ?_, ?_, .nil⟩⟩ fun b o hb nb => ?_
    · rw [upd_ne npd.symm, upd_ne ndl, upd_ne npd.symm, upd_same]
      rfl
    · rw [upd_ne npl.symm, upd_same]
      rfl
    · have h1 : b ≠ d := ne_of_none hb hd
      have h2 : b ≠ l := ne_of_none hb hl0
      have h3 : b ≠ t := fun z => by
        rw [← z, upd_ne h1, hb] at ht
        cases ht
      rw [upd_ne nb, upd_ne h2, upd_ne nb, upd_ne h1, upd_ne h3, upd_ne h1]
      exact hb
def spState (K : PySem.W.Frag) : Sp := fun vs H Q _ => ∃ (v : V) (d l t : Addr) (b : BS) (q : UM.Q), vs = [v, .ref t] ∧ BldAt K H v d l b ∧ H t = some (.tup ((nameK q).map kV)) ∧ b.nums.length < 50000 ∧
  ∀ H' : Hp, BldAt K H' v d l (stateB b q) → But d l H H' → Q (vI (stateN b q)) H'
abbrev sc_bstateN : List Str := ["self", "name"]
theorem sc_bstate : FnScope sc_bstateN ["self", "name"] (defScope s_Builder_state) := ⟨rfl, rfl, rfl, by decide +kernel, rfl, by decide +kernel, by decide +kernel⟩
theorem ok_bstate {f : Addr} {fd : FuncData} (F : FnP K d_Builder_state f fd) (T : Tx K mg) : FnOk P w K mg base CX0 1 f fd ["self", "name"] (spState K) := by
  refine F.ok sc_bstate (fun vs H Q E h => ?_) (fun cdv A outer s H vs Q E hr h => ?_)
  · obtain ⟨v, d, l, t, b, q, rfl, _⟩ := h
    rfl
  · obtain ⟨v, d, l, t, b, q, rfl, B, ht, hlen, k⟩ := h
    have hu := hu_of hr
    obtain ⟨p, dx, ts, rfl, h1, h2, h3, h4⟩ := id B.ex
    refine ⟨_, PSs.nox (pss_one (ps_ret (pe_dsetT hu (pe_fld (pv 0) rfl) (pv 1) (pe_callB call_len_dT (by rfl) T.f_len PySem.boot_len (pa_cons (pe_fld (pv 0) rfl) pa_nil)) ⟨rfl, rfl, rfl, rfl⟩))), ?_⟩
    refine ⟨_, rfl, p, CB K, dx, _, _, rfl, h1, T.c_Builder, T.n_Builder_numbers, rfl, d, rfl, .inr ⟨_, .inl h2⟩, _, rfl, _, rfl, p, CB K, dx, _, _, rfl, h1, T.c_Builder, T.n_Builder_numbers, rfl, d, _, rfl, h2, ?_⟩
    refine ⟨_, nameK q, t, h2, rfl, ht, (by rw [numsV_len]; exact Nat.lt_of_lt_of_le hlen (by decide)), fun v hv => ?_, fun hv => ?_⟩
    · rw [numsV_get] at hv
      cases e : b.nums.lookup q with
      | none =>
        rw [e] at hv
        cases hv
      | some n =>
        rw [e] at hv
        cases hv
        have e1 : stateB b q = b := by unfold stateB; rw [e]
        have e2 : stateN b q = n := by unfold stateN; rw [e]
        have := k H (by rw [e1]; exact B) But.refl
        rw [e2] at this
        exact this
    · rw [numsV_get] at hv
      cases e : b.nums.lookup q with
      | some n =>
        rw [e] at hv
        cases hv
      | none =>
        have e1 : stateB b q = ⟨b.nums ++ [(q, b.nums.length)], b.rules⟩ := by unfold stateB; rw [e]
        have e2 : stateN b q = b.nums.length := by unfold stateN; rw [e]
        have npd : p ≠ d := ne_of h1 h2 (fun z => nomatch z)
        have nld : l ≠ d := ne_of h3 h2 (fun z => nomatch z)
        have := k (upd H d (.dT (putK (numsV b.nums) (nameK q) (.int ((numsV b.nums).length : Int))))) ?_ fun c o hc n1 n2 => by rw [upd_ne n1]; exact hc
        · rw [e2] at this
          rw [numsV_len] at this ⊢
          exact this
        · rw [e1]
          refine ⟨⟨p, dx, ts, rfl, by rw [upd_ne npd]; exact h1, ?_, by rw [upd_ne nld]; exact h3, h4.same fun c xs hc => by rw [upd_ne (ne_of hc h2 fun z => nomatch z)]; exact hc⟩⟩
          rw [upd_same, putK_new _ (by rw [numsV_get, e]; rfl), numsV_len]
          unfold numsV
          rw [List.map_append]
          rfl
def spOn (K : PySem.W.Frag) : Sp := fun vs H Qk _ => ∃ (v : V) (d l tn tf : Addr) (b : BS) (n f : UM.Q) (s w : Nat) (m : Int), vs = [v, .ref tn, vI s, vI w, .int m, .ref tf] ∧ BldAt K H v d l b ∧ H tn = some (.tup ((nameK n).map kV)) ∧ H tf = some (.tup ((nameK f).map kV)) ∧ sz b ≤ 30000 ∧
  ∀ H' : Hp, BldAt K H' v d l (onB b n s w m f) → But d l H H' → Qk .non H'
abbrev sc_bonN : List Str := ["self", "name", "sign", "written", "move", "following", "here", "there", "digit"]
theorem sc_bon : FnScope sc_bonN ["self", "name", "sign", "written", "move", "following"] (defScope s_Builder_on) := ⟨rfl, rfl, rfl, by decide +kernel, rfl, by decide +kernel, by decide +kernel⟩
theorem ok_bon {f : Addr} {fd : FuncData} (F : FnP K d_Builder_on f fd) (T : Tx K mg) (G_Builder_state : Met P w K mg base 1 (CB K) "state" ["self", "name"] (spState K)) : FnOk P w K mg base CX0 2 f fd ["self", "name", "sign", "written", "move", "following"] (spOn K) := by
  refine F.ok sc_bon (fun vs H Q E h => ?_) (fun cdv A outer s H vs Q E hr h => ?_)
  · obtain ⟨v, d, l, tn, tf, b, n, f, s, w, m, rfl, _⟩ := h
    rfl
  · obtain ⟨v, d, l, tn, tf, b, nm, fl, sg, wr, m, rfl, B, htn, htf, hsz, k⟩ := h
    obtain ⟨p, dx, ts, rfl, h1, h2, h3, h4⟩ := id B.ex
    refine ⟨_, PSs.nox (pss_cons (ps_set (i := 6) sc_bon.nd rfl (Or.inl rfl) (pe_methC (pv 0) T.c_Builder G_Builder_state (hr.mono (by decide)) (pa_cons (pv 1) pa_nil)))
      (pss_cons (ps_set (i := 7) sc_bon.nd rfl (Or.inl rfl) (pe_methC (pv 0) T.c_Builder G_Builder_state (hr.mono (by decide)) (pa_cons (pv 5) pa_nil)))
      (pss_one (ps_for PassesOwn.never (by rfl) (pi_range1 (by rfl) T.f_range (pa_cons pe_int pa_nil)) (pg_name (i := 8) sc_bon.nd rfl (Or.inl rfl)) (pss_one (ps_expr (pe_bm PySem.F.plainAttrs_list PySem.F.slot_list_append PySem.F.type_list_append mt_append (pe_fld (pv 0) rfl) (pa_cons (pe_tup (pa_cons (pv 6) (pa_cons (pe_op op_add (pe_op op_mul pe_int (pv 2)) (pv 8)) (pa_cons (pe_op op_add (pe_op op_mul pe_int (pv 3)) (pv 8)) (pa_cons (pv 4) (pa_cons (pv 7) pa_nil)))))) pa_nil)))))))), ?_⟩
    -- here = self.state(name)
    refine ⟨_, rfl, p, dx, _, rfl, h1, rfl, _, rfl, _, d, l, tn, b, nm, rfl, B, htn, (by unfold sz at hsz; omega), fun H1 B1 f1 => ?_⟩
    obtain ⟨p1, dx1, ts1, e1, g1, g2, g3, g4⟩ := id B1.ex
    cases e1
    have hz1 := sz_state b nm
    -- there = self.state(following)
    refine ⟨_, rfl, p, dx1, _, rfl, g1, rfl, _, rfl, _, d, l, tf, _, fl, rfl, B1, f1.tup B htf, (by unfold sz at hsz hz1; omega), fun H2 B2 f2 => ?_⟩
    -- the two rules
    refine ⟨2, rfl, by decide, by decide, for_range (lo := 0) (n := 2) (fun i σ H' => ∃ x, σ = [some (.ref p), some (.ref tn), some (vI sg), some (vI wr), some (.int m), some (.ref tf), some (vI (stateN b nm)), some (vI (stateN (stateB b nm) fl)), x] ∧
      BldAt K H' (.ref p) d l ((List.range i).foldl (fun b' j => addB b' (stateN b nm, 2 * sg + j, 2 * wr + j, m, stateN (stateB b nm) fl)) (stateB (stateB b nm) fl)) ∧ But d l H H') ⟨none, rfl, B2, f1.trans f2⟩ ?_ ?_⟩
    · rintro i σ H3 hi ⟨x, rfl, B3, f3⟩
      obtain ⟨p3, dx3, ts3, e3, k1, k2, k3, k4⟩ := id B3.ex
      cases e3
      have hlen3 : ts3.length < 50000 := by
        have e4 := RulesOf.length k4
        have e5 := sz_fold (c := 1) (f := fun b' j => addB b' (stateN b nm, 2 * sg + j, 2 * wr + j, m, stateN (stateB b nm) fl)) (fun b' j => by rw [sz_add]; exact Nat.le_refl _) (List.range i) (stateB (stateB b nm) fl)
        have e6 := sz_state (stateB b nm) fl
        rw [List.length_range] at e5
        unfold sz at e5 e6 hz1 hsz
        omega
      refine ⟨_, rfl, p, CB K, dx3, _, _, rfl, k1, T.c_Builder, T.n_Builder_rules, rfl, .inl ⟨rfl, _, SqL.of k3⟩, ?_⟩
      refine ⟨_, rfl, _, rfl, _, _, rfl, rfl, .inl ⟨by decide, by decide⟩, _, rfl, _, _, rfl, rfl, _, rfl, _, _, rfl, rfl, .inl ⟨by decide, by decide⟩, _, rfl, _, _, rfl, rfl, _, rfl, _, rfl, (by show 5 ≤ sizeLine; decide), fun t ht => ?_⟩
      have s3 := same_new (o := .tup [vI (stateN b nm), .int (2 * (sg : Int) + (0 + (i : Int))), .int (2 * (wr : Int) + (0 + (i : Int))), .int m, vI (stateN (stateB b nm) fl)]) ht
      refine ⟨l, _, _, rfl, rfl, s3 _ _ k3, (by rw [List.length_map]; exact Nat.lt_of_lt_of_le hlen3 (by decide)), ?_⟩
      obtain ⟨B4, f4⟩ := BldAt.add (r := (stateN b nm, 2 * sg + i, 2 * wr + i, m, stateN (stateB b nm) fl)) (s3 _ _ k1) (s3 _ _ k2) (s3 _ _ k3) (k4.same fun c xs => s3 _ _) (by
        rw [upd_same, vI_eq (a := 2 * (sg : Int) + (0 + (i : Int))) (b := 2 * sg + i) (by omega), vI_eq (a := 2 * (wr : Int) + (0 + (i : Int))) (b := 2 * wr + i) (by omega)])
      refine ⟨_, rfl, ?_, (f3.trans (But.of s3)).trans f4⟩
      rw [List.range_succ, List.foldl_append]
      exact B4
    · rintro σ H3 ⟨x, rfl, B3, f3⟩
      refine k H3 ?_ f3
      unfold onB
      exact B3
/-- the signs of keep: a list that is not the builder's own, or a tuple -/
def SgAt (H : Hp) (l a : Addr) (ss : List Nat) : Prop := (H a = some (.lst (vIs ss)) ∧ a ≠ l) ∨ H a = some (.tup (vIs ss))
theorem SgAt.but {K : PySem.W.Frag} {H H' : Hp} {v : V} {d l a : Addr} {b : BS} {ss : List Nat} (h : SgAt H l a ss) (f : But d l H H') (B : BldAt K H v d l b) : SgAt H' l a ss := by
  rcases h with ⟨h, n⟩ | h
  · exact .inl ⟨f.lst B h n, n⟩
  · exact .inr (f.tup B h)
def spKeep (K : PySem.W.Frag) : Sp := fun vs H Qk _ => ∃ (v : V) (d l tn tf a : Addr) (b : BS) (n f : UM.Q) (ss : List Nat) (m : Int), vs = [v, .ref tn, .ref a, .int m, .ref tf] ∧ BldAt K H v d l b ∧ H tn = some (.tup ((nameK n).map kV)) ∧ H tf = some (.tup ((nameK f).map kV)) ∧
  SgAt H l a ss ∧ ss.length ≤ 20 ∧ sz b ≤ 25000 ∧ ∀ H' : Hp, BldAt K H' v d l (keepB b n ss m f) → But d l H H' → Qk .non H'
theorem keep_sz {b : BS} {n f : UM.Q} {m : Int} {ss : List Nat} (h : sz b ≤ 25000) (hs : ss.length ≤ 20) (i : Nat) : sz (keepB b n (ss.take i) m f) ≤ 30000 := by
  have h1 := sz_keep b n (ss.take i) m f
  have h2 : (ss.take i).length ≤ ss.length := by rw [List.length_take]; omega
  omega
theorem keep_take {b : BS} {n f : UM.Q} {m : Int} {ss : List Nat} {i x : Nat} (h : ss[i]? = some x) : keepB b n (ss.take (i + 1)) m f = onB (keepB b n (ss.take i) m f) n x x m f := by
  unfold keepB
  exact fold_take h b
theorem keep_nil {b : BS} {n f : UM.Q} {m : Int} {ss : List Nat} : keepB b n (ss.take 0) m f = b := by
  unfold keepB
  rfl
abbrev sc_bkeepLN : List Str := ["self", "name", "signs", "move", "following", "sign"]
theorem sc_bkeepL : FnScope sc_bkeepLN ["self", "name", "signs", "move", "following"] (defScope s_Builder_keep) := ⟨rfl, rfl, rfl, by decide +kernel, rfl, by decide +kernel, by decide +kernel⟩
theorem ok_bkeep {f : Addr} {fd : FuncData} (F : FnP K d_Builder_keep f fd) (T : Tx K mg) (G_Builder_on : Met P w K mg base 2 (CB K) "on" ["self", "name", "sign", "written", "move", "following"] (spOn K)) : FnOk P w K mg base CX0 3 f fd ["self", "name", "signs", "move", "following"] (spKeep K) := by
  refine F.ok sc_bkeepL (fun vs H Q E h => ?_) (fun cdv A outer s H vs Q E hr h => ?_)
  · obtain ⟨v, d, l, tn, tf, a, b, n, f, ss, m, rfl, _⟩ := h
    rfl
  · obtain ⟨v, d, l, tn, tf, a, b, nm, fl, ss, m, rfl, B, htn, htf, hs, hlen, hsz, k⟩ := h
    obtain ⟨p, dx, ts, rfl, h1, h2, h3, h4⟩ := id B.ex
    have nal : ∀ H' : Hp, BldAt K H' (.ref p) d l b → True := fun _ _ => trivial
    have body : ∀ (i : Nat) (x : V) (σ : L2.St) (H' : Hp) (W : L2.St → Hp → Prop) (i1 : (vIs ss)[i]? = some x) (hW : ∀ H2 y, BldAt K H2 (.ref p) d l (keepB b nm (ss.take (i + 1)) m fl) → But d l H H2 → W [some (.ref p), some (.ref tn), some (.ref a), some (.int m), some (.ref tf), some y] H2),
        (∃ y, σ = [some (.ref p), some (.ref tn), some (.ref a), some (.int m), some (.ref tf), y] ∧ BldAt K H' (.ref p) d l (keepB b nm (ss.take i) m fl) ∧ But d l H H') →
        tMeth (CB K) "on" (spOn K) [] E0 (tVar 0) (tCons (tVar 1) (tCons (tVar 5) (tCons (tVar 5) (tCons (tVar 3) (tCons (tVar 4) tNil))))) (σ.set 5 (some x)) H' fun _ H1 => W (σ.set 5 (some x)) H1 := by
      rintro i x σ H' W i1 hW ⟨y, rfl, B1, f1⟩
      obtain ⟨sg, hsg, rfl⟩ := vIs_get i1
      obtain ⟨p1, dx1, ts1, e1, g1, g2, g3, g4⟩ := id B1.ex
      cases e1
      refine ⟨_, rfl, p, dx1, _, rfl, g1, rfl, _, rfl, _, rfl, _, rfl, _, rfl, _, rfl, _, d, l, tn, tf, _, nm, fl, sg, sg, m, rfl, B1, f1.tup B htn, f1.tup B htf, keep_sz hsz hlen i, fun H2 B2 f2 => ?_⟩
      rw [← keep_take hsg] at B2
      exact hW H2 _ B2 (f1.trans f2)
    rcases id hs with ⟨ha, nl⟩ | ha
    · refine ⟨_, PSs.nox (pss_one (ps_for PassesOwn.never (by rfl) (pi_list (pv 2)) (pg_name (i := 5) sc_bkeepL.nd rfl (Or.inl rfl)) (pss_one (ps_expr (pe_methC (pv 0) T.c_Builder G_Builder_on (hr.mono (by decide)) (pa_cons (pv 1) (pa_cons (pv 5) (pa_cons (pv 5) (pa_cons (pv 3) (pa_cons (pv 4) pa_nil)))))))))), ?_⟩
      refine ⟨_, rfl, a, rfl, ⟨_, SqL.of ha⟩, for_list (K := K) (a := a) (xs := vIs ss) (fun i σ H' => ∃ y, σ = [some (.ref p), some (.ref tn), some (.ref a), some (.int m), some (.ref tf), y] ∧ BldAt K H' (.ref p) d l (keepB b nm (ss.take i) m fl) ∧ But d l H H')
        ⟨none, rfl, by rw [keep_nil]; exact B, But.refl⟩ (fun i σ H' _ ⟨_, _, _, f1⟩ => SqL.of (f1.lst B ha nl)) (fun i x σ H' i1 h => body i x σ H' _ i1 (fun H2 y b2 f2 => ⟨_, rfl, b2, f2⟩) h) ?_⟩
      rintro σ H3 ⟨y, rfl, B3, f3⟩
      rw [vIs_len, List.take_length] at B3
      exact k H3 B3 f3
    · refine ⟨_, PSs.nox (pss_one (ps_for PassesOwn.never (by rfl) (pi_tup (pv 2)) (pg_name (i := 5) sc_bkeepL.nd rfl (Or.inl rfl)) (pss_one (ps_expr (pe_methC (pv 0) T.c_Builder G_Builder_on (hr.mono (by decide)) (pa_cons (pv 1) (pa_cons (pv 5) (pa_cons (pv 5) (pa_cons (pv 3) (pa_cons (pv 4) pa_nil)))))))))), ?_⟩
      refine ⟨_, rfl, a, rfl, ⟨_, SqT.of ha⟩, for_tup (K := K) (a := a) (xs := vIs ss) (fun i σ H' => ∃ y, σ = [some (.ref p), some (.ref tn), some (.ref a), some (.int m), some (.ref tf), y] ∧ BldAt K H' (.ref p) d l (keepB b nm (ss.take i) m fl) ∧ But d l H H')
        ⟨none, rfl, by rw [keep_nil]; exact B, But.refl⟩ (fun i σ H' _ ⟨_, _, _, f1⟩ => SqT.of (f1.tup B ha)) (fun i x σ H' i1 h => body i x σ H' _ i1 (fun H2 y b2 f2 => ⟨_, rfl, b2, f2⟩) h) ?_⟩
      rintro σ H3 ⟨y, rfl, B3, f3⟩
      rw [vIs_len, List.take_length] at B3
      exact k H3 B3 f3
/-- what a comprehension over range(14) has kept so far -/
def kept (p : Nat → Bool) (i : Nat) : List Nat := (List.range i).filter p
theorem kept_succ (p : Nat → Bool) (i : Nat) : kept p (i + 1) = if p i = true then kept p i ++ [i] else kept p i := by
  unfold kept
  rw [List.range_succ, List.filter_append]
  cases h : p i with
  | true => rw [List.filter_cons_of_pos h, if_pos rfl]; rfl
  | false => rw [List.filter_cons_of_neg (by rw [h]; exact Bool.false_ne_true), if_neg Bool.false_ne_true, List.filter_nil, List.append_nil]
theorem kept_len (p : Nat → Bool) (i : Nat) : (kept p i).length ≤ i := by
  unfold kept
  exact Nat.le_trans (List.length_filter_le _ _) (by simp)
theorem kept_14 (p : Nat → Bool) : kept p 14 = others p := by
  unfold kept others
  rfl
theorem decI (i s : Nat) : (!decide (V.int (0 + (i : Int)) = V.int (s : Int))) = (i != s) := by
  by_cases h : i = s
  · rw [h]
    simp
  · have h2 : ¬ V.int (0 + (i : Int)) = V.int (s : Int) := fun z => h (by have := V.int.inj z; omega)
    rw [decide_eq_false h2]
    exact (bne_iff_ne.mpr h).symm
def spSeek (K : PySem.W.Frag) : Sp := fun vs H Qk _ => ∃ (v : V) (d l tn tf : Addr) (b : BS) (n f : UM.Q) (s : Nat) (m : Int), vs = [v, .ref tn, vI s, .int m, .ref tf] ∧ BldAt K H v d l b ∧ H tn = some (.tup ((nameK n).map kV)) ∧ H tf = some (.tup ((nameK f).map kV)) ∧ sz b ≤ 25000 ∧
  ∀ H' : Hp, BldAt K H' v d l (seekB b n s m f) → But d l H H' → Qk .non H'
abbrev sc_bseekN : List Str := ["self", "name", "sign", "move", "following", "other"]
theorem sc_bseek : FnScope sc_bseekN ["self", "name", "sign", "move", "following"] (defScope s_Builder_seek) := ⟨rfl, rfl, rfl, by decide +kernel, rfl, by decide +kernel, by decide +kernel⟩
theorem ok_bseek {f : Addr} {fd : FuncData} (F : FnP K d_Builder_seek f fd) (T : Tx K mg) (G_Builder_on : Met P w K mg base 2 (CB K) "on" ["self", "name", "sign", "written", "move", "following"] (spOn K)) (G_Builder_keep : Met P w K mg base 3 (CB K) "keep" ["self", "name", "signs", "move", "following"] (spKeep K)) :
    FnOk P w K mg base CX0 4 f fd ["self", "name", "sign", "move", "following"] (spSeek K) := by
  refine F.ok sc_bseek (fun vs H Q E h => ?_) (fun cdv A outer s H vs Q E hr h => ?_)
  · obtain ⟨v, d, l, tn, tf, b, n, f, s, m, rfl, _⟩ := h
    rfl
  · obtain ⟨v, d, l, tn, tf, b, nm, fl, sg, m, rfl, B, htn, htf, hsz, k⟩ := h
    obtain ⟨p, dx, ts, rfl, h1, h2, h3, h4⟩ := id B.ex
    refine ⟨_, PSs.nox (pss_cons (ps_expr (pe_methC (pv 0) T.c_Builder G_Builder_keep (hr.mono (by decide)) (pa_cons (pv 1) (pa_cons (pe_lc (own := [("other", 5)]) (g := gName 5) (by rfl) sc_bseek.nd (pi_range1 (by rfl) T.f_range (pa_cons (pe_gint rfl T.i_SIGNS) pa_nil)) (blkOk_by (own := [("other", 5)]) (N := sc_bseekN) (sc := defScope s_Builder_seek) (by decide +kernel)) (fun _ _ _ _ _ => pg_name (i := 5) sc_bseek.nd rfl (Or.inl rfl)) (fun _ _ _ _ _ => (pts_one (pt_cmpR op_ne (pv 5) (pv 2) (nomark _)))) (fun _ _ _ _ _ => (pv 5))) (pa_cons (pv 3) (pa_cons (pv 1) pa_nil))))))
      (pss_one (ps_expr (pe_methC (pv 0) T.c_Builder G_Builder_on (hr.mono (by decide)) (pa_cons (pv 1) (pa_cons (pv 2) (pa_cons (pv 2) (pa_cons pe_int (pa_cons (pv 4) pa_nil))))))))), ?_⟩
    refine ⟨_, rfl, p, dx, _, rfl, h1, rfl, _, rfl, 14, rfl, by decide, by decide, fun D hD => lc_range (lo := 0) (n := 14) (fun i H' => Same H H' ∧ H' D = some (.lst (vIs (kept (fun o => o != sg) i)))) ⟨same_new hD, upd_same⟩ ?_ ?_⟩
    · rintro i H' hi ⟨s1, hl⟩
      refine ⟨rfl, _, rfl, _, rfl, rfl, _, rfl, ?_⟩
      rw [decI]
      rw [kept_succ]
      cases hp : (i != sg) with
      | true =>
        refine iteT ⟨_, rfl, _, hl, (by rw [vIs_len]; exact Nat.lt_of_le_of_lt (kept_len _ i) (Nat.lt_of_lt_of_le hi (by decide))), fun c o hc => ?_, ?_⟩
        · rw [upd_ne (ne_of_none hc hD)]
          exact s1 _ _ hc
        · rw [upd_same, if_pos rfl, vIs_snoc, vI_eq (a := 0 + (i : Int)) (b := i) (by omega)]
      | false =>
        refine iteF ⟨s1, ?_⟩
        rw [if_neg Bool.false_ne_true]
        exact hl
    · rintro H' ⟨s1, hl⟩
      have nDl : D ≠ l := fun z => by
        rw [z, h3] at hD
        cases hD
      rw [kept_14] at hl
      refine ⟨_, rfl, _, rfl, _, d, l, tn, tn, D, b, nm, nm, others (fun o => o != sg), m, rfl, B.same s1, s1 _ _ htn, s1 _ _ htn, .inl ⟨hl, nDl⟩, Nat.le_trans (len_others _) (by decide), hsz, fun H2 B2 f2 => ?_⟩
      obtain ⟨p2, dx2, ts2, e2, g1, g2, g3, g4⟩ := id B2.ex
      cases e2
      have f3 : But d l H H2 := (But.of s1).trans f2
      have hz := sz_keep b nm (others fun o => o != sg) m nm
      have hz2 := len_others fun o => o != sg
      refine ⟨_, rfl, p, dx2, _, rfl, g1, rfl, _, rfl, _, rfl, _, rfl, _, rfl, _, d, l, tn, tf, _, nm, fl, sg, sg, 1, rfl, B2, f3.tup B htn, f3.tup B htf, by omega, fun H3 B3 f4 => ?_⟩
      refine k H3 ?_ (f3.trans f4)
      unfold seekB
      exact B3
end
end TH
/-! The functions that write the universal machine's rules. -/
namespace TH
open PySem PySem.Spec PyProof.Rows L2 UM
/-! ### expressions that only read -/
def InE (te : TE) (σ : L2.St) (v : V) : Prop := ∀ (H : Hp) (Qk : VK), Qk v H → te σ H Qk
def ArE (ta : TA) (σ : L2.St) (vs : List V) : Prop := ∀ (H : Hp) (Qk : List V → Hp → Prop), Qk vs H → ta σ H Qk
/-- a new tuple -/
def NmE (te : TE) (σ : L2.St) (H0 : Hp) (xs : List V) : Prop := ∀ (H : Hp) (Qk : VK), Same H0 H → (∀ t H', Same H H' → H' t = some (.tup xs) → Qk (.ref t) H') → te σ H Qk
section
variable {σ : L2.St} {ta tb te : TE} {tr : TA} {v : V} {vs : List V} {i j : Int} {a b : Nat}
theorem ie_c : InE (tC v) σ v := fun _ _ k => k
theorem ie_var {n : Nat} (h : σ[n]? = some (some v)) : InE (tVar n) σ v := fun _ _ k => ⟨v, h, k⟩
theorem ie_is {w : V} (h : InE te σ v) (e : v = w) : InE te σ w := e ▸ h
theorem ie_add (h1 : InE ta σ (.int i)) (h2 : InE tb σ (.int j)) : InE (tOp (rI0 fun i j => V.int (i + j)) ta tb) σ (.int (i + j)) := fun H _ k => h1 H _ (h2 H _ ⟨i, j, rfl, rfl, k⟩)
theorem ie_sub (h1 : InE ta σ (.int i)) (h2 : InE tb σ (.int j)) : InE (tOp (rI0 fun i j => V.int (i - j)) ta tb) σ (.int (i - j)) := fun H _ k => h1 H _ (h2 H _ ⟨i, j, rfl, rfl, k⟩)
theorem ie_mul (h1 : InE ta σ (.int i)) (h2 : InE tb σ (.int j)) (c : CMul i j) : InE (tOp (rI CMul fun i j => V.int (i * j)) ta tb) σ (.int (i * j)) := fun H _ k => h1 H _ (h2 H _ ⟨i, j, rfl, rfl, c, k⟩)
theorem ie_neg (h1 : InE ta σ (.int i)) : InE (tUn (rU fun i => V.int (-i)) ta) σ (.int (-i)) := fun H _ k => h1 H _ ⟨i, rfl, k⟩
theorem ar_nil : ArE tNil σ [] := fun _ _ k => k
theorem ar_cons (h : InE te σ v) (hr : ArE tr σ vs) : ArE (tCons te tr) σ (v :: vs) := fun H _ k => h H _ (hr H _ k)
theorem nm_tup {H0 : Hp} (h : ArE tr σ vs) (hl : vs.length ≤ 1000) : NmE (tTup tr) σ H0 vs := fun H _ _ k => h H _ ⟨Nat.le_trans hl (by decide), fun p hp => k p _ (same_new hp) upd_same⟩
theorem len_name (q : UM.Q) : ((nameK q).map kV).length ≤ 1000 := by
  rw [List.length_map]
  cases q <;> (first | exact (by decide : 1 ≤ 1000) | exact (by decide : 2 ≤ 1000) | exact (by decide : 3 ≤ 1000) | exact (by decide : 4 ≤ 1000))
theorem nm_name {q : UM.Q} {H0 : Hp} (h : ArE tr σ ((nameK q).map kV)) : NmE (tTup tr) σ H0 ((nameK q).map kV) := nm_tup h (len_name q)
theorem q_set {n : Nat} {H : Hp} {Z : L2.St → Hp → Prop} (h : InE te σ v) (k : Z (σ.set n (some v)) H) : te σ H (fun x H1 => gName n x σ H1 Z) := h H _ k
theorem nm_var {t : Addr} {xs : List V} {n : Nat} {H0 : Hp} (h : σ[n]? = some (some (.ref t))) (ht : H0 t = some (.tup xs)) : NmE (tVar n) σ H0 xs := fun H _ s0 k => ⟨_, h, k t H (Same.refl H) (s0 _ _ ht)⟩
end
local macro_rules | `(tactic| walk_at "ie") => `(tactic| first
  | exact ie_c
  | exact ie_var rfl
  | exact ie_neg ie_c
  | exact ie_add ie_c (ie_var rfl)
  | exact ie_is (ie_add ie_c (ie_var rfl)) (vI_eq (by omega))
  | exact ie_is (ie_var rfl) (vI_eq (by omega)))
local macro_rules | `(tactic| walk_at "ar") => `(tactic| repeat (first
  | exact ar_nil
  | (refine ar_cons ie_c ?_)
  | (refine ar_cons (ie_var rfl) ?_)))
local macro_rules | `(tactic| walk_at "nm") => `(tactic| exact nm_name (by walk_at "ar"))
section
variable {P : Program} {w : World} {K : PySem.W.Frag} {mg : Str → Option Value} {base : Heap}
/-! ### the three calls -/
section
variable {σ : L2.St} {H : Hp} {tn ts tw tm tf tg : TE} {v : V} {d l : Addr} {b : BS} {n f : UM.Q} {s wr : Nat} {m : Int} {Z : Hp → Prop} {i : Nat}
theorem q_on (B : BldAt K H v d l b) (hb : σ[i]? = some (some v)) (hn : NmE tn σ H ((nameK n).map kV)) (hs : InE ts σ (vI s)) (hw : InE tw σ (vI wr)) (hm : InE tm σ (.int m)) (hf : NmE tf σ H ((nameK f).map kV)) (hz : sz b ≤ 30000)
    (k : ∀ H', BldAt K H' v d l (onB b n s wr m f) → But d l H H' → Z H') : tMeth (CB K) "on" (spOn K) [] E0 (tVar i) (tCons tn (tCons ts (tCons tw (tCons tm (tCons tf tNil))))) σ H (fun _ H' => Z H') := by
  obtain ⟨p, dx, ts1, rfl, h1, h2, h3, h4⟩ := id B.ex
  refine ⟨_, hb, p, dx, _, rfl, h1, rfl, ?_⟩
  refine hn H _ (Same.refl H) fun t1 H1 s1 e1 => hs H1 _ (hw H1 _ (hm H1 _ (hf H1 _ s1 fun t2 H2 s2 e2 => ?_)))
  exact ⟨_, d, l, t1, t2, b, n, f, s, wr, m, rfl, B.same (s1.trans s2), s2 _ _ e1, e2, hz, fun H3 B3 f3 => k H3 B3 ((But.of (s1.trans s2)).trans f3)⟩
theorem q_seek (B : BldAt K H v d l b) (hb : σ[i]? = some (some v)) (hn : NmE tn σ H ((nameK n).map kV)) (hs : InE ts σ (vI s)) (hm : InE tm σ (.int m)) (hf : NmE tf σ H ((nameK f).map kV)) (hz : sz b ≤ 25000)
    (k : ∀ H', BldAt K H' v d l (seekB b n s m f) → But d l H H' → Z H') : tMeth (CB K) "seek" (spSeek K) [] E0 (tVar i) (tCons tn (tCons ts (tCons tm (tCons tf tNil)))) σ H (fun _ H' => Z H') := by
  obtain ⟨p, dx, ts1, rfl, h1, h2, h3, h4⟩ := id B.ex
  refine ⟨_, hb, p, dx, _, rfl, h1, rfl, ?_⟩
  refine hn H _ (Same.refl H) fun t1 H1 s1 e1 => hs H1 _ (hm H1 _ (hf H1 _ s1 fun t2 H2 s2 e2 => ?_))
  exact ⟨_, d, l, t1, t2, b, n, f, s, m, rfl, B.same (s1.trans s2), s2 _ _ e1, e2, hz, fun H3 B3 f3 => k H3 B3 ((But.of (s1.trans s2)).trans f3)⟩
/-- signs given by an expression that makes a new list or tuple, or by a name -/
def SgE (te : TE) (σ : L2.St) (H0 : Hp) (l : Addr) (ss : List Nat) : Prop := ∀ (H : Hp) (Qk : VK), Same H0 H → (∀ a H', Same H H' → SgAt H' l a ss → Qk (.ref a) H') → te σ H Qk
theorem q_keep {ss : List Nat} (B : BldAt K H v d l b) (hb : σ[i]? = some (some v)) (hn : NmE tn σ H ((nameK n).map kV)) (hs : SgE ts σ H l ss) (hm : InE tm σ (.int m)) (hf : NmE tf σ H ((nameK f).map kV)) (hl : ss.length ≤ 20) (hz : sz b ≤ 25000)
    (k : ∀ H', BldAt K H' v d l (keepB b n ss m f) → But d l H H' → Z H') : tMeth (CB K) "keep" (spKeep K) [] E0 (tVar i) (tCons tn (tCons ts (tCons tm (tCons tf tNil)))) σ H (fun _ H' => Z H') := by
  obtain ⟨p, dx, ts1, rfl, h1, h2, h3, h4⟩ := id B.ex
  refine ⟨_, hb, p, dx, _, rfl, h1, rfl, ?_⟩
  refine hn H _ (Same.refl H) fun t1 H1 s1 e1 => hs H1 _ s1 fun a H2 s2 e2 => hm H2 _ (hf H2 _ (s1.trans s2) fun t2 H3 s3 e3 => ?_)
  have sa : SgAt H3 l a ss := by
    rcases e2 with ⟨q, nl⟩ | q
    · exact .inl ⟨s3 _ _ q, nl⟩
    · exact .inr (s3 _ _ q)
  exact ⟨_, d, l, t1, t2, a, b, n, f, ss, m, rfl, B.same ((s1.trans s2).trans s3), s3 _ _ (s2 _ _ e1), e3, sa, hl, hz, fun H4 B4 f4 => k H4 B4 ((But.of ((s1.trans s2).trans s3)).trans f4)⟩
theorem q_state (B : BldAt K H v d l b) (hb : σ[i]? = some (some v)) (hn : NmE tn σ H ((nameK n).map kV)) (hz : sz b ≤ 30000) {Zv : VK}
    (k : ∀ H', BldAt K H' v d l (stateB b n) → But d l H H' → Zv (vI (stateN b n)) H') : tMeth (CB K) "state" (spState K) [] E0 (tVar i) (tCons tn tNil) σ H Zv := by
  obtain ⟨p, dx, ts1, rfl, h1, h2, h3, h4⟩ := id B.ex
  refine ⟨_, hb, p, dx, _, rfl, h1, rfl, ?_⟩
  refine hn H _ (Same.refl H) fun t1 H1 s1 e1 => ?_
  exact ⟨_, d, l, t1, b, n, rfl, B.same s1, e1, (by unfold sz at hz; omega), fun H3 B3 f3 => k H3 B3 ((But.of s1).trans f3)⟩
/-- self.rules.append((..)) -/
theorem q_rule {ta : TA} {r : Rul} {b0 : BS} (T : Tx K mg) (B : BldAt K H v d l b0) (hb : σ[i]? = some (some v)) (ha : ∀ (Qk : List V → Hp → Prop), (∀ H', BldAt K H' v d l b → But d l H H' → Qk (rowV r) H') → ta σ H Qk) (hz : sz b ≤ 30000)
    (k : ∀ H', BldAt K H' v d l (addB b r) → But d l H H' → Z H') : tBM K "list" rAppend (tFld K (tVar i) "rules") (tCons (tTup ta) tNil) σ H (fun _ H' => Z H') := by
  obtain ⟨p, dx, ts1, rfl, h1, h2, h3, h4⟩ := id B.ex
  refine ⟨_, hb, p, CB K, dx, _, _, rfl, h1, T.c_Builder, T.n_Builder_rules, rfl, .inl ⟨rfl, _, SqL.of h3⟩, ?_⟩
  refine ha _ fun H1 B1 f1 => ⟨(by show 5 ≤ sizeLine; decide), fun t ht => ?_⟩
  obtain ⟨p1, dx1, ts2, e1, g1, g2, g3, g4⟩ := id B1.ex
  cases e1
  have s3 := same_new (o := .tup (rowV r)) ht
  obtain ⟨B4, f4⟩ := BldAt.add (s3 _ _ g1) (s3 _ _ g2) (s3 _ _ g3) (g4.same fun c xs => s3 _ _) upd_same
  refine ⟨l, _, _, rfl, rfl, s3 _ _ g3, ?_, k _ B4 ((f1.trans (But.of s3)).trans f4)⟩
  have := RulesOf.length g4
  unfold sz at hz
  rw [List.length_map]
  exact Nat.lt_of_le_of_lt (by omega : ts2.length ≤ 30000) (by decide)
end
/-! ### the signs -/
theorem sg_kd {σ : L2.St} {H0 : Hp} {l : Addr} {K : PySem.W.Frag} {mg : Str → Option Value} (T : Tx K mg) (hl : ∃ o, H0 l = some o) : SgE (tCB (fun xs H Qk => ∃ d ks, xs = [V.ref d] ∧ KInts K d ks ∧ ∀ p, H p = none → Qk (.ref p) (upd H p (.lst (ks.map V.int)))) (tCons (tC (.ref (DM K))) tNil)) σ H0 l mvs := fun H Qk s0 k =>
  ⟨DM K, [9, 10, 11], rfl, T.mv, fun p hp => k p _ (same_new hp) (.inl ⟨upd_same, by
    obtain ⟨o, ho⟩ := hl
    exact (ne_of_none (s0 _ _ ho) hp).symm⟩)⟩
theorem sg_tup {σ : L2.St} {H0 : Hp} {l : Addr} {ta : TA} {ss : List Nat} (h : ArE ta σ (vIs ss)) (hl : ss.length ≤ 1000) : SgE (tTup ta) σ H0 l ss := fun H Qk _ k =>
  h H _ ⟨Nat.le_trans (by rw [vIs_len]; exact hl) (by decide), fun p hp => k p _ (same_new hp) (.inr upd_same)⟩
theorem sg_var {σ : L2.St} {H0 : Hp} {l a : Addr} {n : Nat} {ss : List Nat} (h : σ[n]? = some (some (.ref a))) (ha : SgAt H0 l a ss) : SgE (tVar n) σ H0 l ss := fun H Qk s0 k =>
  ⟨_, h, k a H (Same.refl H) (by
    rcases ha with ⟨q, nl⟩ | q
    · exact .inl ⟨s0 _ _ q, nl⟩
    · exact .inr (s0 _ _ q))⟩
/-- [other for other in range(SIGNS) if test] -/
theorem sg_lc {σ : L2.St} {H0 : Hp} {l : Addr} {j : Nat} {tt : TT} (p : Nat → Bool) (hl : ∃ o, H0 l = some o) (hw : ∀ x, wipe ((wipe σ [j]).set j (some x)) [j] = wipe σ [j])
    (ht : ∀ (i : Nat) (H : Hp) (Qk : Bool → Hp → Prop), i < 14 → (∀ H', Same H H' → Qk (p i) H') → tt ((wipe σ [j]).set j (some (.int (0 + (i : Int))))) H Qk) (hj : ∀ x : V, ((wipe σ [j]).set j (some x))[j]? = some (some x)) :
    SgE (tLc (iRng1 (tCons (tC (.int 14)) tNil)) (gName j) tt (tVar j) [j]) σ H0 l (others p) := fun H Qk s0 k => by
  refine ⟨14, rfl, by decide, by decide, fun D hD => lc_range (lo := 0) (n := 14) (fun i H' => Same H H' ∧ H' D = some (.lst (vIs (kept p i)))) ⟨same_new hD, upd_same⟩ ?_ ?_⟩
  · rintro i H' hi ⟨s1, h1⟩
    refine ⟨hw _, ht i H' _ hi fun H2 s2 => ?_⟩
    rw [kept_succ]
    cases hp : p i with
    | true =>
      refine iteT ⟨_, hj _, _, s2 _ _ h1, (by rw [vIs_len]; exact Nat.lt_of_le_of_lt (kept_len _ i) (Nat.lt_of_lt_of_le hi (by decide))), fun c o hc => ?_, ?_⟩
      · rw [upd_ne (ne_of_none hc hD)]
        exact s2 _ _ (s1 _ _ hc)
      · rw [upd_same, if_pos rfl, vIs_snoc, vI_eq (a := 0 + (i : Int)) (b := i) (by omega)]
    | false =>
      refine iteF ⟨s1.trans s2, ?_⟩
      rw [if_neg Bool.false_ne_true]
      exact s2 _ _ h1
  · rintro H' ⟨s1, h1⟩
    rw [kept_14] at h1
    refine k D H' s1 (.inl ⟨h1, ?_⟩)
    obtain ⟨o, ho⟩ := hl
    exact (ne_of_none (s0 _ _ ho) hD).symm
/-- list(range(2, SIGNS)) -/
theorem sg_rg {σ : L2.St} {H0 : Hp} {l : Addr} (hl : ∃ o, H0 l = some o) : SgE (tLstRg (tRg2 (tC (.int 2)) (tC (.int 14)))) σ H0 l ((List.range 12).map (2 + ·)) := fun H Qk s0 k =>
  ⟨2, 14, rfl, rfl, RgOk.of_le (by decide) (by decide) (by decide) (by decide), fun q hq => k q _ (same_new hq) (.inl ⟨by rw [upd_same]; rfl, by
    obtain ⟨o, ho⟩ := hl
    exact (ne_of_none (s0 _ _ ho) hq).symm⟩)⟩
theorem decC (i s : Nat) : (!decide (V.int (0 + (i : Int)) = V.int (s : Int))) = (i != s) := decI i s
theorem ne_test {i s : Nat} {j : Nat} {σ : L2.St} {H : Hp} {Qk : Bool → Hp → Prop} (h : σ[j]? = some (some (.int (0 + (i : Int))))) (k : ∀ H', Same H H' → Qk (i != s) H') : tTest (tOp rNe (tVar j) (tC (vI s))) σ H Qk := by
  refine ⟨_, h, rfl, _, rfl, ?_⟩
  rw [decI]
  exact k H (Same.refl H)
/-! ### loops -/
theorem for_rangeN {n : Nat} {g : TG} {tb : TS} {D : Ends} {σ : L2.St} {H : Hp} (Pv : Nat → L2.St → Hp → Prop) (h0 : Pv 0 σ H)
    (hs : ∀ i σ H, i < n → Pv i σ H → g (vI i) σ H fun σ2 H2 => tb { D with nx := Pv (i + 1), ct := Pv (i + 1), bk := D.nx } σ2 H2) (hd : ∀ σ H, Pv n σ H → D.nx σ H) :
    ∃ W : Nat → Nat → L2.St → Hp → Prop, (∃ m, W 0 m σ H) ∧ ∀ i m σ H, W i m σ H →
      ((Itr 0 n).stop i H ∧ D.nx σ H) ∨ ((Itr 0 n).go i H ∧ ∃ N : L2.St → Hp → Prop, (∀ σ' H', N σ' H' → ∃ m', m' < m ∧ W (i + 1) m' σ' H') ∧ ∀ x H', (Itr 0 n).yld i H x H' → g x σ H' fun σ2 H2 => tb { D with nx := N, ct := N, bk := D.nx } σ2 H2) :=
  for_range (lo := 0) Pv h0 (fun i σ H hi p => by rw [Int.zero_add]; exact hs i σ H hi p) hd
theorem for_rangeA {lo n : Nat} {g : TG} {tb : TS} {D : Ends} {σ : L2.St} {H : Hp} (Pv : Nat → L2.St → Hp → Prop) (h0 : Pv 0 σ H)
    (hs : ∀ i σ H, i < n → Pv i σ H → g (vI (lo + i)) σ H fun σ2 H2 => tb { D with nx := Pv (i + 1), ct := Pv (i + 1), bk := D.nx } σ2 H2) (hd : ∀ σ H, Pv n σ H → D.nx σ H) :
    ∃ W : Nat → Nat → L2.St → Hp → Prop, (∃ m, W 0 m σ H) ∧ ∀ i m σ H, W i m σ H →
      ((Itr (lo : Int) n).stop i H ∧ D.nx σ H) ∨ ((Itr (lo : Int) n).go i H ∧ ∃ N : L2.St → Hp → Prop, (∀ σ' H', N σ' H' → ∃ m', m' < m ∧ W (i + 1) m' σ' H') ∧ ∀ x H', (Itr (lo : Int) n).yld i H x H' → g x σ H' fun σ2 H2 => tb { D with nx := N, ct := N, bk := D.nx } σ2 H2) :=
  for_range (lo := (lo : Int)) Pv h0 (fun i σ H hi p => by rw [vI_eq (a := (lo : Int) + (i : Int)) (b := lo + i) (by omega)]; exact hs i σ H hi p) hd
theorem for_mv {g : TG} {tb : TS} {D : Ends} {σ : L2.St} {H : Hp} (Pv : Nat → L2.St → Hp → Prop) (h0 : Pv 0 σ H)
    (hs : ∀ i s σ H, mvs[i]? = some s → Pv i σ H → g (vI s) σ H fun σ2 H2 => tb { D with nx := Pv (i + 1), ct := Pv (i + 1), bk := D.nx } σ2 H2) (hd : ∀ σ H, Pv 3 σ H → D.nx σ H) :
    ∃ W : Nat → Nat → L2.St → Hp → Prop, (∃ m, W 0 m σ H) ∧ ∀ i m σ H, W i m σ H →
      ((Itkd [9, 10, 11]).stop i H ∧ D.nx σ H) ∨ ((Itkd [9, 10, 11]).go i H ∧ ∃ N : L2.St → Hp → Prop, (∀ σ' H', N σ' H' → ∃ m', m' < m ∧ W (i + 1) m' σ' H') ∧ ∀ x H', (Itkd [9, 10, 11]).yld i H x H' → g x σ H' fun σ2 H2 => tb { D with nx := N, ct := N, bk := D.nx } σ2 H2) :=
  for_kd (ks := [9, 10, 11]) Pv h0 (fun i k σ H hk p => by
    have e : (mvs.map fun (n : Nat) => (n : Int))[i]? = some k := hk
    rw [List.getElem?_map] at e
    cases em : mvs[i]? with
    | none =>
      rw [em] at e
      cases e
    | some s =>
      rw [em] at e
      cases e
      exact hs i s σ H em p) hd
/-! ### write_reading -/
def spWR (K : PySem.W.Frag) (fn : BS → BS) : Sp := fun vs H Qk _ => ∃ (v : V) (d l : Addr) (b : BS), vs = [v] ∧ BldAt K H v d l b ∧ sz b ≤ 10000 ∧ ∀ H' : Hp, BldAt K H' v d l (fn b) → But d l H H' → Qk .non H'
theorem sz_read1 (h : Nat) (b : BS) (d : Nat) : sz (read1 h b d) ≤ sz b + 70 := by
  unfold read1
  have h1 := sz_seek (addB (stateB b (.find d)) (h, 2 + d, 2 + d, 1, stateN b (.find d))) (.find d) 4 1 (.entry d)
  rw [sz_add] at h1
  have h2 := sz_state b (.find d)
  omega
theorem sz_read2b (w d : Nat) (b : BS) (s : Nat) : sz (read2b w d b s) ≤ sz b + 4 := by
  unfold read2b
  exact sz_on _ _ _ _ _ _
theorem sz_read2a (w : Nat) (b : BS) (d : Nat) : sz (read2a w b d) ≤ sz b + 12 := by
  unfold read2a
  exact sz_fold (sz_read2b w d) mvs b
theorem sz_read2 (b : BS) (w : Nat) : sz (read2 b w) ≤ sz b + 40 := by
  unfold read2
  have h1 := sz_fold (sz_read2a w) [0, 1] (onB (onB b (.entry 0) (7 + w) (7 + w) 1 (.move w 0)) .second (7 + w) (7 + w) 1 (.move w 1))
  have h2 := sz_on b (.entry 0) (7 + w) (7 + w) 1 (.move w 0)
  have h3 := sz_on (onB b (.entry 0) (7 + w) (7 + w) 1 (.move w 0)) .second (7 + w) (7 + w) 1 (.move w 1)
  have : 12 * ([0, 1] : List Nat).length = 24 := rfl
  omega
theorem take01 {i : Nat} (h : i < 2) : (([0, 1] : List Nat))[i]? = some i := by
  rcases (by omega : i = 0 ∨ i = 1) with rfl | rfl <;> rfl
abbrev sc_wreadN : List Str := ["builder", "home", "digit", "written", "symbol", "sign"]
theorem sc_wread : FnScope sc_wreadN ["builder"] (defScope s_write_reading) := ⟨rfl, rfl, rfl, by decide +kernel, rfl, by decide +kernel, by decide +kernel⟩
theorem ok_wread {f : Addr} {fd : FuncData} (F : FnP K d_write_reading f fd) (T : Tx K mg) (G_Builder_state : Met P w K mg base 1 (CB K) "state" ["self", "name"] (spState K)) (G_Builder_on : Met P w K mg base 2 (CB K) "on" ["self", "name", "sign", "written", "move", "following"] (spOn K))
    (G_Builder_seek : Met P w K mg base 4 (CB K) "seek" ["self", "name", "sign", "move", "following"] (spSeek K)) : FnOk P w K mg base CX0 5 f fd ["builder"] (spWR K readingB) := by
  refine F.ok sc_wread (fun vs H Q E h => ?_) (fun cdv A outer s H vs Q E hr h => ?_)
  · obtain ⟨v, d, l, b, rfl, _⟩ := h
    rfl
  · obtain ⟨v, d, l, b, rfl, B, hz, k⟩ := h
    refine ⟨_, PSs.nox (pss_cons (ps_set (i := 1) sc_wread.nd rfl (Or.inl rfl) (pe_methC (pv 0) T.c_Builder G_Builder_state (hr.mono (by decide)) (pa_cons (pe_tup (pa_cons pe_str pa_nil)) pa_nil)))
      (pss_cons (ps_for PassesOwn.never (by rfl) (pi_range1 (by rfl) T.f_range (pa_cons pe_int pa_nil)) (pg_name (i := 2) sc_wread.nd rfl (Or.inl rfl)) (pss_cons (ps_set (i := 4) sc_wread.nd rfl (Or.inl rfl) (pe_op op_add (pe_op op_mul pe_int (pe_gint rfl T.i_OPEN)) (pv 2)))
      (pss_cons (ps_expr (pe_bm PySem.F.plainAttrs_list PySem.F.slot_list_append PySem.F.type_list_append mt_append (pe_fld (pv 0) rfl) (pa_cons (pe_tup (pa_cons (pv 1) (pa_cons (pv 4) (pa_cons (pv 4) (pa_cons pe_int (pa_cons (pe_methC (pv 0) T.c_Builder G_Builder_state (hr.mono (by decide)) (pa_cons (pe_tup (pa_cons pe_str (pa_cons (pv 2) pa_nil))) pa_nil)) pa_nil)))))) pa_nil)))
      (pss_one (ps_expr (pe_methC (pv 0) T.c_Builder G_Builder_seek (hr.mono (by decide)) (pa_cons (pe_tup (pa_cons pe_str (pa_cons (pv 2) pa_nil))) (pa_cons (pe_gint rfl T.i_ACTIVE) (pa_cons pe_int (pa_cons (pe_tup (pa_cons pe_str (pa_cons (pv 2) pa_nil))) pa_nil))))))))))
      (pss_cons (ps_expr (pe_methC (pv 0) T.c_Builder G_Builder_seek (hr.mono (by decide)) (pa_cons (pe_tup (pa_cons pe_str (pa_cons pe_int pa_nil))) (pa_cons (pe_gint rfl T.i_COMMA) (pa_cons pe_int (pa_cons (pe_tup (pa_cons pe_str pa_nil)) pa_nil))))))
      (pss_one (ps_for PassesOwn.never (by rfl) (pi_range1 (by rfl) T.f_range (pa_cons pe_int pa_nil)) (pg_name (i := 3) sc_wread.nd rfl (Or.inl rfl)) (pss_cons (ps_expr (pe_methC (pv 0) T.c_Builder G_Builder_on (hr.mono (by decide)) (pa_cons (pe_tup (pa_cons pe_str (pa_cons pe_int pa_nil))) (pa_cons (pe_op op_add (pe_gint rfl T.i_ZERO) (pv 3)) (pa_cons (pe_op op_add (pe_gint rfl T.i_ZERO) (pv 3)) (pa_cons pe_int (pa_cons (pe_tup (pa_cons pe_str (pa_cons (pv 3) (pa_cons pe_int pa_nil)))) pa_nil)))))))
      (pss_cons (ps_expr (pe_methC (pv 0) T.c_Builder G_Builder_on (hr.mono (by decide)) (pa_cons (pe_tup (pa_cons pe_str pa_nil)) (pa_cons (pe_op op_add (pe_gint rfl T.i_ZERO) (pv 3)) (pa_cons (pe_op op_add (pe_gint rfl T.i_ZERO) (pv 3)) (pa_cons pe_int (pa_cons (pe_tup (pa_cons pe_str (pa_cons (pv 3) (pa_cons pe_int pa_nil)))) pa_nil)))))))
      (pss_one (ps_for PassesOwn.never (by rfl) (pi_range1 (by rfl) T.f_range (pa_cons pe_int pa_nil)) (pg_name (i := 2) sc_wread.nd rfl (Or.inl rfl)) (pss_one (ps_for PassesOwn.never (by rfl) (pi_kd (pe_gref rfl T.g_MOVES)) (pg_name (i := 5) sc_wread.nd rfl (Or.inl rfl)) (pss_one (ps_expr (pe_methC (pv 0) T.c_Builder G_Builder_on (hr.mono (by decide)) (pa_cons (pe_tup (pa_cons pe_str (pa_cons (pv 3) (pa_cons (pv 2) pa_nil)))) (pa_cons (pv 5) (pa_cons (pv 5) (pa_cons (pe_un un_neg pe_int) (pa_cons (pe_tup (pa_cons pe_str (pa_cons (pv 3) (pa_cons (pv 5) (pa_cons (pv 2) pa_nil))))) pa_nil))))))))))))))))))), ?_⟩
    refine q_state (n := .home) B rfl (by walk_at "nm") (by omega) fun H1 B1 f1 => ?_
    have z1 := sz_state b .home
    refine ⟨2, rfl, by decide, by decide, for_rangeN (n := 2) (fun i σ H' => ∃ x y z u, σ = [some v, some (vI (stateN b .home)), x, y, z, u] ∧
      BldAt K H' v d l (([0, 1].take i).foldl (read1 (stateN b .home)) (stateB b .home)) ∧ But d l H H' ∧ sz (([0, 1].take i).foldl (read1 (stateN b .home)) (stateB b .home)) ≤ 10001 + 70 * i) ⟨none, none, none, none, rfl, B1, f1, by show sz (stateB b .home) ≤ _; omega⟩ ?_ ?_⟩
    · rintro i σ H2 hi ⟨x, y, z, u, rfl, B2, f2, z2⟩
      refine q_set (v := vI (2 + i)) (ie_is (ie_add (ie_mul ie_c ie_c (.inl ⟨by decide, by decide⟩)) (ie_var rfl)) (vI_eq (by omega))) ?_
      rw [fold_take (take01 hi)]
      generalize ([0, 1].take i).foldl (read1 (stateN b .home)) (stateB b .home) = b2 at B2 z2 ⊢
      have z3 := sz_state b2 (.find i)
      have z4 := sz_add (stateB b2 (.find i)) (stateN b .home, 2 + i, 2 + i, 1, stateN b2 (.find i))
      refine q_rule (i := 0) (r := (stateN b .home, 2 + i, 2 + i, 1, stateN b2 (.find i))) T B2 rfl (fun Qk kk => ⟨_, rfl, _, rfl, _, rfl, q_state (n := .find i) B2 rfl (by walk_at "nm") (by omega) fun H3 B3 f3 => kk H3 B3 f3⟩) (by omega) fun H3 B3 f3 => ?_
      refine q_seek (i := 0) (n := .find i) (f := .entry i) (s := 4) B3 rfl (by walk_at "nm") (by walk_at "ie") (by walk_at "ie") (by walk_at "nm") (by omega) fun H4 B4 f4 => ?_
      refine ⟨_, _, _, _, rfl, ?_, (f2.trans f3).trans f4, ?_⟩
      · unfold read1
        exact B4
      · have := sz_read1 (stateN b .home) b2 i
        omega
    · rintro σ H2 ⟨x, y, z, u, rfl, B2, f2, z2⟩
      rw [show ([0, 1] : List Nat).take 2 = [0, 1] from rfl] at B2 z2
      generalize hb2 : [0, 1].foldl (read1 (stateN b .home)) (stateB b .home) = b2 at B2 z2
      refine q_seek (i := 0) (n := .entry 1) (f := .second) (s := 12) B2 rfl (by walk_at "nm") (by walk_at "ie") (by walk_at "ie") (by walk_at "nm") (by omega) fun H3 B3 f3 => ?_
      have z3 := sz_seek b2 (.entry 1) 12 1 .second
      generalize hb3 : seekB b2 (.entry 1) 12 1 .second = b3 at B3 z3
      refine ⟨2, rfl, by decide, by decide, for_rangeN (n := 2) (fun i σ H' => ∃ x y z u, σ = [some v, some (vI (stateN b .home)), x, y, z, u] ∧
        BldAt K H' v d l (([0, 1].take i).foldl read2 b3) ∧ But d l H H' ∧ sz (([0, 1].take i).foldl read2 b3) ≤ 11000 + 70 * i) ⟨x, y, z, u, rfl, B3, f2.trans f3, by show sz b3 ≤ _; omega⟩ ?_ ?_⟩
      · rintro w σ H4 hw ⟨x, y, z, u, rfl, B4, f4, z4⟩
        rw [fold_take (take01 hw)]
        generalize ([0, 1].take w).foldl read2 b3 = b4 at B4 z4 ⊢
        refine q_on (i := 0) (n := .entry 0) (f := .move w 0) (s := 7 + w) (wr := 7 + w) B4 rfl (by walk_at "nm") (by walk_at "ie") (by walk_at "ie") (by walk_at "ie") (by walk_at "nm") (by omega) fun H5 B5 f5 => ?_
        have z5 := sz_on b4 (.entry 0) (7 + w) (7 + w) 1 (.move w 0)
        refine q_on (i := 0) (n := .second) (f := .move w 1) (s := 7 + w) (wr := 7 + w) B5 rfl (by walk_at "nm") (by walk_at "ie") (by walk_at "ie") (by walk_at "ie") (by walk_at "nm") (by omega) fun H6 B6 f6 => ?_
        have z6 := sz_on (onB b4 (.entry 0) (7 + w) (7 + w) 1 (.move w 0)) .second (7 + w) (7 + w) 1 (.move w 1)
        have z7 := sz_read2 b4 w
        unfold read2 at z7 ⊢
        generalize onB (onB b4 (.entry 0) (7 + w) (7 + w) 1 (.move w 0)) .second (7 + w) (7 + w) 1 (.move w 1) = b6 at B6 z6 z7 ⊢
        refine ⟨2, rfl, by decide, by decide, for_rangeN (n := 2) (fun i σ H' => ∃ x z u, σ = [some v, some (vI (stateN b .home)), x, some (vI w), z, u] ∧
          BldAt K H' v d l (([0, 1].take i).foldl (read2a w) b6) ∧ But d l H H' ∧ sz (([0, 1].take i).foldl (read2a w) b6) ≤ 11500 + 12 * i) ⟨x, z, u, rfl, B6, ((f4.trans f5).trans f6), by show sz b6 ≤ _; omega⟩ ?_ ?_⟩
        · rintro i σ H7 hi ⟨x, z, u, rfl, B7, f7, z8⟩
          rw [fold_take (take01 hi)]
          generalize ([0, 1].take i).foldl (read2a w) b6 = b7 at B7 z8 ⊢
          have z9 := sz_read2a w b7 i
          unfold read2a at z9 ⊢
          refine ⟨DM K, _, rfl, T.mv, for_mv (fun j σ H' => ∃ z u, σ = [some v, some (vI (stateN b .home)), some (vI i), some (vI w), z, u] ∧
            BldAt K H' v d l ((mvs.take j).foldl (read2b w i) b7) ∧ But d l H H' ∧ sz ((mvs.take j).foldl (read2b w i) b7) ≤ 12000 + 4 * j) ⟨z, u, rfl, B7, f7, by show sz b7 ≤ _; omega⟩ ?_ ?_⟩
          · rintro j s σ H8 hj ⟨z, u, rfl, B8, f8, z10⟩
            have hj3 : j < 3 := (List.getElem?_eq_some_iff.mp hj).1
            rw [fold_take hj]
            generalize (mvs.take j).foldl (read2b w i) b7 = b8 at B8 z10 ⊢
            refine q_on (i := 0) (n := .move w i) (f := .write w s i) (s := s) (wr := s) B8 rfl (by walk_at "nm") (by walk_at "ie") (by walk_at "ie") (by walk_at "ie") (by walk_at "nm") (by omega) fun H9 B9 f9 => ?_
            have := sz_read2b w i b8 s
            refine ⟨_, _, rfl, ?_, f8.trans f9, by omega⟩
            unfold read2b
            exact B9
          · rintro σ H8 ⟨z, u, rfl, B8, f8, z10⟩
            rw [show mvs.take 3 = mvs from rfl] at B8 z10
            exact ⟨_, _, _, rfl, B8, f8, by omega⟩
        · rintro σ H7 ⟨x, z, u, rfl, B7, f7, z8⟩
          rw [show ([0, 1] : List Nat).take 2 = [0, 1] from rfl] at B7 z8
          exact ⟨_, _, _, _, rfl, B7, f7, by omega⟩
      · rintro σ H4 ⟨x, y, z, u, rfl, B4, f4, z4⟩
        refine k H4 ?_ f4
        unfold readingB
        rw [hb2, hb3]
        exact B4
/-! ### write_writing -/
theorem sz_write3 (w s d t : Nat) (b : BS) (o : Nat) : sz (write3 w s d t b o) ≤ sz b + 2 := by
  unfold write3
  rw [sz_add]
  have := sz_state b (.write w s d)
  omega
theorem sz_write2 (w s : Nat) (b : BS) (d : Nat) : sz (write2 w s b d) ≤ sz b + 60 := by
  unfold write2
  have h1 := sz_keep b (.write w s d) ((List.range 12).map (2 + ·)) (-1) (.write w s d)
  have h2 := sz_state (keepB b (.write w s d) ((List.range 12).map (2 + ·)) (-1) (.write w s d)) (.again s d)
  have h3 := sz_fold (sz_write3 w s d (stateN (keepB b (.write w s d) ((List.range 12).map (2 + ·)) (-1) (.write w s d)) (.again s d))) [0, 1] (stateB (keepB b (.write w s d) ((List.range 12).map (2 + ·)) (-1) (.write w s d)) (.again s d))
  have e1 : ((List.range 12).map (2 + ·)).length = 12 := rfl
  have e2 : ([0, 1] : List Nat).length = 2 := rfl
  rw [e1] at h1
  rw [e2] at h3
  show sz ([0, 1].foldl _ _) ≤ _
  omega
theorem sz_write1 (w : Nat) (b : BS) (s : Nat) : sz (write1 w b s) ≤ sz b + 120 := by
  unfold write1
  exact sz_fold (sz_write2 w s) [0, 1] b
theorem sz_write0 (b : BS) (w : Nat) : sz (write0 b w) ≤ sz b + 360 := by
  unfold write0
  exact sz_fold (sz_write1 w) mvs b
theorem BldAt.lst {H : Hp} {v : V} {d l : Addr} {b : BS} (B : BldAt K H v d l b) : ∃ o, H l = some o := by
  obtain ⟨p, dx, ts, e, q1, q2, q3, q4⟩ := B.ex
  exact ⟨_, q3⟩
abbrev sc_wwriteN : List Str := ["builder", "written", "sign", "digit", "name", "there", "old"]
theorem sc_wwrite : FnScope sc_wwriteN ["builder"] (defScope s_write_writing) := ⟨rfl, rfl, rfl, by decide +kernel, rfl, by decide +kernel, by decide +kernel⟩
theorem ok_wwrite {f : Addr} {fd : FuncData} (F : FnP K d_write_writing f fd) (T : Tx K mg) (G_Builder_state : Met P w K mg base 1 (CB K) "state" ["self", "name"] (spState K)) (G_Builder_keep : Met P w K mg base 3 (CB K) "keep" ["self", "name", "signs", "move", "following"] (spKeep K)) : FnOk P w K mg base CX0 5 f fd ["builder"] (spWR K writingB) := by
  refine F.ok sc_wwrite (fun vs H Q E h => ?_) (fun cdv A outer s H vs Q E hr h => ?_)
  · obtain ⟨v, d, l, b, rfl, _⟩ := h
    rfl
  · obtain ⟨v, d, l, b, rfl, B, hz, k⟩ := h
    refine ⟨_, PSs.nox (pss_one (ps_for PassesOwn.never (by rfl) (pi_range1 (by rfl) T.f_range (pa_cons pe_int pa_nil)) (pg_name (i := 1) sc_wwrite.nd rfl (Or.inl rfl)) (pss_one (ps_for PassesOwn.never (by rfl) (pi_kd (pe_gref rfl T.g_MOVES)) (pg_name (i := 2) sc_wwrite.nd rfl (Or.inl rfl)) (pss_one (ps_for PassesOwn.never (by rfl) (pi_range1 (by rfl) T.f_range (pa_cons pe_int pa_nil)) (pg_name (i := 3) sc_wwrite.nd rfl (Or.inl rfl)) (pss_cons (ps_set (i := 4) sc_wwrite.nd rfl (Or.inl rfl) (pe_tup (pa_cons pe_str (pa_cons (pv 1) (pa_cons (pv 2) (pa_cons (pv 3) pa_nil))))))
      (pss_cons (ps_expr (pe_methC (pv 0) T.c_Builder G_Builder_keep (hr.mono (by decide)) (pa_cons (pv 4) (pa_cons (pe_listRg rfl (by rfl) T.f_list (prg_2 (by rfl) T.f_range pe_int (pe_gint rfl T.i_SIGNS))) (pa_cons (pe_un un_neg pe_int) (pa_cons (pv 4) pa_nil))))))
      (pss_cons (ps_set (i := 5) sc_wwrite.nd rfl (Or.inl rfl) (pe_methC (pv 0) T.c_Builder G_Builder_state (hr.mono (by decide)) (pa_cons (pe_tup (pa_cons pe_str (pa_cons (pv 2) (pa_cons (pv 3) pa_nil)))) pa_nil)))
      (pss_one (ps_for PassesOwn.never (by rfl) (pi_range1 (by rfl) T.f_range (pa_cons pe_int pa_nil)) (pg_name (i := 6) sc_wwrite.nd rfl (Or.inl rfl)) (pss_one (ps_expr (pe_bm PySem.F.plainAttrs_list PySem.F.slot_list_append PySem.F.type_list_append mt_append (pe_fld (pv 0) rfl) (pa_cons (pe_tup (pa_cons (pe_methC (pv 0) T.c_Builder G_Builder_state (hr.mono (by decide)) (pa_cons (pv 4) pa_nil)) (pa_cons (pe_op op_add (pe_op op_mul pe_int (pe_gint rfl T.i_OPEN)) (pv 6)) (pa_cons (pe_op op_add (pe_op op_mul pe_int (pe_gint rfl T.i_OPEN)) (pv 1)) (pa_cons pe_int (pa_cons (pv 5) pa_nil)))))) pa_nil))))))))))))))), ?_⟩
    refine ⟨2, rfl, by decide, by decide, for_rangeN (n := 2) (fun i σ H' => ∃ x y z u t o, σ = [some v, x, y, z, u, t, o] ∧ BldAt K H' v d l (([0, 1].take i).foldl write0 b) ∧ But d l H H' ∧ sz (([0, 1].take i).foldl write0 b) ≤ 10000 + 360 * i)
      ⟨none, none, none, none, none, none, rfl, B, But.refl, by show sz b ≤ _; omega⟩ ?_ ?_⟩
    · rintro wr σ H1 hw ⟨x, y, z, u, t, o, rfl, B1, f1, z1⟩
      rw [fold_take (take01 hw)]
      generalize ([0, 1].take wr).foldl write0 b = b1 at B1 z1 ⊢
      have zz := sz_write0 b1 wr
      unfold write0 at zz ⊢
      refine ⟨DM K, _, rfl, T.mv, for_mv (fun j σ H' => ∃ y z u t o, σ = [some v, some (vI wr), y, z, u, t, o] ∧ BldAt K H' v d l ((mvs.take j).foldl (write1 wr) b1) ∧ But d l H H' ∧ sz ((mvs.take j).foldl (write1 wr) b1) ≤ 11000 + 120 * j)
        ⟨y, z, u, t, o, rfl, B1, f1, by show sz b1 ≤ _; omega⟩ ?_ ?_⟩
      · rintro j sg σ H2 hj ⟨y, z, u, t, o, rfl, B2, f2, z2⟩
        have hj3 : j < 3 := (List.getElem?_eq_some_iff.mp hj).1
        rw [fold_take hj]
        generalize (mvs.take j).foldl (write1 wr) b1 = b2 at B2 z2 ⊢
        have zz2 := sz_write1 wr b2 sg
        unfold write1 at zz2 ⊢
        refine ⟨2, rfl, by decide, by decide, for_rangeN (n := 2) (fun i σ H' => ∃ z u t o, σ = [some v, some (vI wr), some (vI sg), z, u, t, o] ∧ BldAt K H' v d l (([0, 1].take i).foldl (write2 wr sg) b2) ∧ But d l H H' ∧ sz (([0, 1].take i).foldl (write2 wr sg) b2) ≤ 12000 + 60 * i)
          ⟨z, u, t, o, rfl, B2, f2, by show sz b2 ≤ _; omega⟩ ?_ ?_⟩
        · rintro dg σ H3 hd ⟨z, u, t, o, rfl, B3, f3, z3⟩
          rw [fold_take (take01 hd)]
          generalize ([0, 1].take dg).foldl (write2 wr sg) b2 = b3 at B3 z3 ⊢
          have zz3 := sz_write2 wr sg b3 dg
          -- name = (..)
          refine ⟨_, rfl, _, rfl, _, rfl, (by decide : 4 ≤ sizeLine), fun tn htn => ?_⟩
          have s4 := same_new (o := .tup [.str "write", vI wr, vI sg, vI dg]) htn
          have B4 := B3.same s4
          have t4 : upd H3 tn (.tup [.str "write", vI wr, vI sg, vI dg]) tn = some (.tup ((nameK (.write wr sg dg)).map kV)) := upd_same
          generalize upd H3 tn (.tup [.str "write", vI wr, vI sg, vI dg]) = H4 at s4 B4 t4 ⊢
          refine q_keep (i := 0) (n := .write wr sg dg) (f := .write wr sg dg) (ss := (List.range 12).map (2 + ·)) B4 rfl (nm_var rfl t4) (sg_rg B4.lst) (by walk_at "ie") (nm_var rfl t4) (by decide) (by omega) fun H5 B5 f5 => ?_
          have z5 := sz_keep b3 (.write wr sg dg) ((List.range 12).map (2 + ·)) (-1) (.write wr sg dg)
          have el : ((List.range 12).map (2 + ·)).length = 12 := rfl
          rw [el] at z5
          have t5 := f5.tup B4 t4
          unfold write2
          generalize keepB b3 (.write wr sg dg) ((List.range 12).map (2 + ·)) (-1) (.write wr sg dg) = b5 at B5 z5 ⊢
          refine q_state (i := 0) (n := .again sg dg) B5 rfl (by walk_at "nm") (by omega) fun H6 B6 f6 => ?_
          have z6 := sz_state b5 (.again sg dg)
          have t6 := f6.tup B5 t5
          have f7 : But d l H H6 := ((f3.trans (But.of s4)).trans f5).trans f6
          refine ⟨2, rfl, by decide, by decide, for_rangeN (n := 2) (fun i σ H' => ∃ o, σ = [some v, some (vI wr), some (vI sg), some (vI dg), some (.ref tn), some (vI (stateN b5 (.again sg dg))), o] ∧
            BldAt K H' v d l (([0, 1].take i).foldl (write3 wr sg dg (stateN b5 (.again sg dg))) (stateB b5 (.again sg dg))) ∧ But d l H H' ∧ sz (([0, 1].take i).foldl (write3 wr sg dg (stateN b5 (.again sg dg))) (stateB b5 (.again sg dg))) ≤ 13000 + 2 * i ∧ H' tn = some (.tup ((nameK (.write wr sg dg)).map kV)))
            ⟨o, rfl, B6, f7, by show sz (stateB b5 (.again sg dg)) ≤ _; omega, t6⟩ ?_ ?_⟩
          · rintro od σ H7 ho ⟨o, rfl, B7, f8, z7, t7⟩
            rw [fold_take (take01 ho)]
            generalize ([0, 1].take od).foldl (write3 wr sg dg (stateN b5 (.again sg dg))) (stateB b5 (.again sg dg)) = b7 at B7 z7 ⊢
            have z8 := sz_write3 wr sg dg (stateN b5 (.again sg dg)) b7 od
            have z9 := sz_state b7 (.write wr sg dg)
            unfold write3 at z8 ⊢
            refine q_rule (i := 0) (r := (stateN b7 (.write wr sg dg), 2 + od, 2 + wr, 1, stateN b5 (.again sg dg))) T B7 rfl (fun Qk kk => q_state (n := .write wr sg dg) B7 rfl (nm_var rfl t7) (by omega) fun H8 B8 f9 => ?_) (by omega) fun H8 B8 f9 => ⟨_, rfl, B8, f8.trans f9, by omega, f9.tup B7 t7⟩
            refine ie_is (w := vI (2 + od)) (ie_add (ie_mul ie_c ie_c (.inl ⟨by decide, by decide⟩)) (ie_var rfl)) (vI_eq (by omega)) H8 _ ?_
            refine ie_is (w := vI (2 + wr)) (ie_add (ie_mul ie_c ie_c (.inl ⟨by decide, by decide⟩)) (ie_var rfl)) (vI_eq (by omega)) H8 _ ?_
            exact ⟨_, rfl, kk H8 B8 f9⟩
          · rintro σ H7 ⟨o, rfl, B7, f8, z7, t7⟩
            rw [show ([0, 1] : List Nat).take 2 = [0, 1] from rfl] at B7 z7
            refine ⟨_, _, _, _, rfl, B7, f8, ?_⟩
            show sz ([0, 1].foldl (write3 wr sg dg (stateN b5 (.again sg dg))) (stateB b5 (.again sg dg))) ≤ _
            have : dg < 2 := hd
            have z8 := sz_fold (sz_write3 wr sg dg (stateN b5 (.again sg dg))) [0, 1] (stateB b5 (.again sg dg))
            have e2 : ([0, 1] : List Nat).length = 2 := rfl
            rw [e2] at z8
            omega
        · rintro σ H3 ⟨z, u, t, o, rfl, B3, f3, z3⟩
          rw [show ([0, 1] : List Nat).take 2 = [0, 1] from rfl] at B3 z3
          exact ⟨_, _, _, _, _, rfl, B3, f3, by omega⟩
      · rintro σ H2 ⟨y, z, u, t, o, rfl, B2, f2, z2⟩
        rw [show mvs.take 3 = mvs from rfl] at B2 z2
        exact ⟨_, _, _, _, _, _, rfl, B2, f2, by omega⟩
    · rintro σ H1 ⟨x, y, z, u, t, o, rfl, B1, f1, z1⟩
      rw [show ([0, 1] : List Nat).take 2 = [0, 1] from rfl] at B1
      refine k H1 ?_ f1
      unfold writingB
      exact B1
/-! ### write_choosing -/
theorem sz_choose1 (s : Nat) (b : BS) (d : Nat) : sz (choose1 s b d) ≤ sz b + 60 := by
  unfold choose1
  exact sz_seek _ _ _ _ _
/-- a step of a chain: what comes behind b is b2, of a size that is bounded -/
def spWC (K : PySem.W.Frag) : Sp := fun vs H Qk _ => ∃ (v : V) (d l : Addr) (b : BS) (s : Nat), vs = [v, vI s] ∧ BldAt K H v d l b ∧ sz b ≤ 10000 ∧ ∀ H' : Hp, BldAt K H' v d l (choosingB b s) → But d l H H' → sz (choosingB b s) ≤ sz b + 1200 → Qk .non H'
theorem seq_asg {te : TE} {g : TG} {u : TS} {D : Ends} {σ : L2.St} {H : Hp} (h : te σ H (fun x H1 => g x σ H1 (u D))) : tSeq (tAsg te g) u D σ H := h
theorem not_test2 {i : Nat} {j : Nat} {σ : L2.St} {H : Hp} {Qk : Bool → Hp → Prop} (h : σ[j]? = some (some (.int (0 + (i : Int))))) (k : ∀ H', Same H H' → Qk (!(i == 6 || i == 2)) H') :
    tTest (tOp (rIn K true) (tVar j) (tTup (tCons (tC (.int 6)) (tCons (tC (.int 2)) tNil)))) σ H Qk := by
  refine ⟨_, h, (by decide : 2 ≤ sizeLine), fun p hp => ⟨p, _, rfl, .inr (SqT.of upd_same), rfl, rfl, _, rfl, ?_⟩⟩
  have e : (if true = true then !inV (.int (0 + (i : Int))) [.int 6, .int 2] else inV (.int (0 + (i : Int))) [.int 6, .int 2]) = !(i == 6 || i == 2) := by
    rw [if_pos rfl]
    congr 1
    unfold inV
    rw [List.any_cons, List.any_cons, List.any_nil, Bool.or_false]
    have h1 : ∀ c : Nat, eqV (.int (c : Int)) (.int (0 + (i : Int))) = (i == c) := fun c => by
      by_cases h : i = c
      · rw [h, beq_self_eq_true]
        show decide ((c : Int) = 0 + (c : Int)) = true
        exact decide_eq_true (by omega)
      · rw [beq_false_of_ne h]
        show decide ((c : Int) = 0 + (i : Int)) = false
        exact decide_eq_false (by omega)
    have a := h1 6
    have c := h1 2
    rw [show ((6 : Nat) : Int) = 6 from rfl] at a
    rw [show ((2 : Nat) : Int) = 2 from rfl] at c
    rw [a, c]
  rw [e]
  exact k _ (same_new hp)
abbrev sc_wchooseN : List Str := ["builder", "sign", "digit", "others", "other"]
theorem sc_wchoose : FnScope sc_wchooseN ["builder", "sign"] (defScope s_write_choosing) := ⟨rfl, rfl, rfl, by decide +kernel, rfl, by decide +kernel, by decide +kernel⟩
theorem ok_wchoose {f : Addr} {fd : FuncData} (F : FnP K d_write_choosing f fd) (T : Tx K mg) (G_Builder_on : Met P w K mg base 2 (CB K) "on" ["self", "name", "sign", "written", "move", "following"] (spOn K)) (G_Builder_keep : Met P w K mg base 3 (CB K) "keep" ["self", "name", "signs", "move", "following"] (spKeep K))
    (G_Builder_seek : Met P w K mg base 4 (CB K) "seek" ["self", "name", "sign", "move", "following"] (spSeek K)) : FnOk P w K mg base CX0 5 f fd ["builder", "sign"] (spWC K) := by
  refine F.ok sc_wchoose (fun vs H Q E h => ?_) (fun cdv A outer s H vs Q E hr h => ?_)
  · obtain ⟨v, d, l, b, s, rfl, _⟩ := h
    rfl
  · obtain ⟨v, d, l, b, sg, rfl, B, hz, k⟩ := h
    refine ⟨_, PSs.nox (pss_cons (ps_for PassesOwn.never (by rfl) (pi_range1 (by rfl) T.f_range (pa_cons pe_int pa_nil)) (pg_name (i := 2) sc_wchoose.nd rfl (Or.inl rfl)) (pss_one (ps_expr (pe_methC (pv 0) T.c_Builder G_Builder_seek (hr.mono (by decide)) (pa_cons (pe_tup (pa_cons pe_str (pa_cons (pv 1) (pa_cons (pv 2) pa_nil)))) (pa_cons (pe_gint rfl T.i_ACTIVE) (pa_cons pe_int (pa_cons (pe_tup (pa_cons pe_str (pa_cons (pv 1) (pa_cons (pv 2) pa_nil)))) pa_nil))))))))
      (pss_cons (ps_expr (pe_methC (pv 0) T.c_Builder G_Builder_seek (hr.mono (by decide)) (pa_cons (pe_tup (pa_cons pe_str (pa_cons (pv 1) (pa_cons pe_int pa_nil)))) (pa_cons (pe_gint rfl T.i_COMMA) (pa_cons pe_int (pa_cons (pe_tup (pa_cons pe_str (pa_cons (pv 1) (pa_cons pe_int pa_nil)))) pa_nil))))))
      (pss_cons (ps_expr (pe_methC (pv 0) T.c_Builder G_Builder_keep (hr.mono (by decide)) (pa_cons (pe_tup (pa_cons pe_str (pa_cons (pv 1) (pa_cons pe_int pa_nil)))) (pa_cons (pe_tup (pa_cons (pe_gint rfl T.i_ZERO) (pa_cons (pe_gint rfl T.i_ONE) pa_nil))) (pa_cons pe_int (pa_cons (pe_tup (pa_cons pe_str (pa_cons (pv 1) pa_nil))) pa_nil))))))
      (pss_cons (ps_expr (pe_methC (pv 0) T.c_Builder G_Builder_keep (hr.mono (by decide)) (pa_cons (pe_tup (pa_cons pe_str (pa_cons (pv 1) pa_nil))) (pa_cons (pe_callTy (call_list_kd rfl) (by rfl) T.f_list (by decide +kernel) (pa_cons (pe_gref rfl T.g_MOVES) pa_nil)) (pa_cons pe_int (pa_cons (pe_tup (pa_cons pe_str (pa_cons (pv 1) pa_nil))) pa_nil))))))
      (pss_cons (ps_expr (pe_methC (pv 0) T.c_Builder G_Builder_on (hr.mono (by decide)) (pa_cons (pe_tup (pa_cons pe_str (pa_cons (pv 1) pa_nil))) (pa_cons (pe_gint rfl T.i_UNIT) (pa_cons (pe_gint rfl T.i_MARKED) (pa_cons pe_int (pa_cons (pe_tup (pa_cons pe_str (pa_cons (pv 1) pa_nil))) pa_nil)))))))
      (pss_cons (ps_expr (pe_methC (pv 0) T.c_Builder G_Builder_on (hr.mono (by decide)) (pa_cons (pe_tup (pa_cons pe_str (pa_cons (pv 1) pa_nil))) (pa_cons (pe_gint rfl T.i_COMMA) (pa_cons (pe_gint rfl T.i_COMMA) (pa_cons (pe_un un_neg pe_int) (pa_cons (pe_tup (pa_cons pe_str (pa_cons (pv 1) pa_nil))) pa_nil)))))))
      (pss_cons (ps_expr (pe_methC (pv 0) T.c_Builder G_Builder_keep (hr.mono (by decide)) (pa_cons (pe_tup (pa_cons pe_str (pa_cons (pv 1) pa_nil))) (pa_cons (pe_lc (own := [("other", 4)]) (g := gName 4) (by rfl) sc_wchoose.nd (pi_range1 (by rfl) T.f_range (pa_cons (pe_gint rfl T.i_SIGNS) pa_nil)) (blkOk_by (own := [("other", 4)]) (N := sc_wchooseN) (sc := defScope s_write_choosing) (by decide +kernel)) (fun _ _ _ _ _ => pg_name (i := 4) sc_wchoose.nd rfl (Or.inl rfl)) (fun _ _ _ _ _ => (pts_one (pt_cmpR op_ne (pv 4) (pe_gint rfl T.i_ACTIVE) (nomark _)))) (fun _ _ _ _ _ => (pv 4))) (pa_cons (pe_un un_neg pe_int) (pa_cons (pe_tup (pa_cons pe_str (pa_cons (pv 1) pa_nil))) pa_nil))))))
      (pss_cons (ps_expr (pe_methC (pv 0) T.c_Builder G_Builder_on (hr.mono (by decide)) (pa_cons (pe_tup (pa_cons pe_str (pa_cons (pv 1) pa_nil))) (pa_cons (pe_gint rfl T.i_ACTIVE) (pa_cons (pe_gint rfl T.i_ROW) (pa_cons (pe_un un_neg pe_int) (pa_cons (pe_tup (pa_cons pe_str (pa_cons (pv 1) pa_nil))) pa_nil)))))))
      (pss_cons (ps_expr (pe_methC (pv 0) T.c_Builder G_Builder_seek (hr.mono (by decide)) (pa_cons (pe_tup (pa_cons pe_str (pa_cons (pv 1) pa_nil))) (pa_cons (pe_gint rfl T.i_OPEN) (pa_cons (pe_un un_neg pe_int) (pa_cons (pe_tup (pa_cons pe_str (pa_cons (pv 1) pa_nil))) pa_nil))))))
      (pss_cons (ps_expr (pe_methC (pv 0) T.c_Builder G_Builder_on (hr.mono (by decide)) (pa_cons (pe_tup (pa_cons pe_str (pa_cons (pv 1) pa_nil))) (pa_cons (pe_gint rfl T.i_ROW) (pa_cons (pe_gint rfl T.i_ACTIVE) (pa_cons pe_int (pa_cons (pe_tup (pa_cons pe_str (pa_cons (pv 1) pa_nil))) pa_nil)))))))
      (pss_cons (ps_setLc (i := 3) (own := [("other", 4)]) (g := gName 4) (by rfl) sc_wchoose.nd rfl rfl (sw_true rfl rfl rfl (by decide +kernel)) (pi_range1 (by rfl) T.f_range (pa_cons (pe_gint rfl T.i_SIGNS) pa_nil)) (blkOk_by (own := [("other", 4)]) (N := sc_wchooseN) (sc := defScope s_write_choosing) (by decide +kernel)) (fun _ _ _ _ _ => pg_name (i := 4) sc_wchoose.nd rfl (Or.inl rfl)) (fun _ _ _ _ _ => (pts_one (pt_cmpR (show OpR _ (compareOp .NotIn) (rIn K true) from op_notIn_seq) (pv 4) (pe_tup (pa_cons (pe_gint rfl T.i_MARKED) (pa_cons (pe_gint rfl T.i_CLOSE) pa_nil))) (by rfl)))) (fun _ _ _ _ _ => (pv 4)))
      (pss_cons (ps_expr (pe_methC (pv 0) T.c_Builder G_Builder_keep (hr.mono (by decide)) (pa_cons (pe_tup (pa_cons pe_str (pa_cons (pv 1) pa_nil))) (pa_cons (pv 3) (pa_cons pe_int (pa_cons (pe_tup (pa_cons pe_str (pa_cons (pv 1) pa_nil))) pa_nil))))))
      (pss_cons (ps_expr (pe_methC (pv 0) T.c_Builder G_Builder_on (hr.mono (by decide)) (pa_cons (pe_tup (pa_cons pe_str (pa_cons (pv 1) pa_nil))) (pa_cons (pe_gint rfl T.i_MARKED) (pa_cons (pe_gint rfl T.i_UNIT) (pa_cons (pe_un un_neg pe_int) (pa_cons (pe_tup (pa_cons pe_str (pa_cons (pv 1) pa_nil))) pa_nil)))))))
      (pss_cons (ps_expr (pe_methC (pv 0) T.c_Builder G_Builder_seek (hr.mono (by decide)) (pa_cons (pe_tup (pa_cons pe_str (pa_cons (pv 1) pa_nil))) (pa_cons (pe_gint rfl T.i_OPEN) (pa_cons (pe_un un_neg pe_int) (pa_cons (pe_tup (pa_cons pe_str (pa_cons (pv 1) pa_nil))) pa_nil))))))
      (pss_cons (ps_expr (pe_methC (pv 0) T.c_Builder G_Builder_keep (hr.mono (by decide)) (pa_cons (pe_tup (pa_cons pe_str (pa_cons (pv 1) pa_nil))) (pa_cons (pe_lc (own := [("other", 4)]) (g := gName 4) (by rfl) sc_wchoose.nd (pi_range1 (by rfl) T.f_range (pa_cons (pe_gint rfl T.i_SIGNS) pa_nil)) (blkOk_by (own := [("other", 4)]) (N := sc_wchooseN) (sc := defScope s_write_choosing) (by decide +kernel)) (fun _ _ _ _ _ => pg_name (i := 4) sc_wchoose.nd rfl (Or.inl rfl)) (fun _ _ _ _ _ => (pts_one (pt_cmpR op_ne (pv 4) (pe_gint rfl T.i_ACTIVE) (nomark _)))) (fun _ _ _ _ _ => (pv 4))) (pa_cons pe_int (pa_cons (pe_tup (pa_cons pe_str (pa_cons (pv 1) pa_nil))) pa_nil))))))
      (pss_cons (ps_expr (pe_methC (pv 0) T.c_Builder G_Builder_on (hr.mono (by decide)) (pa_cons (pe_tup (pa_cons pe_str (pa_cons (pv 1) pa_nil))) (pa_cons (pe_gint rfl T.i_ACTIVE) (pa_cons (pe_gint rfl T.i_ROW) (pa_cons pe_int (pa_cons (pe_tup (pa_cons pe_str (pa_cons (pv 1) pa_nil))) pa_nil)))))))
      (pss_cons (ps_expr (pe_methC (pv 0) T.c_Builder G_Builder_keep (hr.mono (by decide)) (pa_cons (pe_tup (pa_cons pe_str (pa_cons (pv 1) pa_nil))) (pa_cons (pe_lc (own := [("other", 4)]) (g := gName 4) (by rfl) sc_wchoose.nd (pi_range1 (by rfl) T.f_range (pa_cons (pe_gint rfl T.i_SIGNS) pa_nil)) (blkOk_by (own := [("other", 4)]) (N := sc_wchooseN) (sc := defScope s_write_choosing) (by decide +kernel)) (fun _ _ _ _ _ => pg_name (i := 4) sc_wchoose.nd rfl (Or.inl rfl)) (fun _ _ _ _ _ => (pts_one (pt_cmpR op_ne (pv 4) (pe_gint rfl T.i_ROW) (nomark _)))) (fun _ _ _ _ _ => (pv 4))) (pa_cons pe_int (pa_cons (pe_tup (pa_cons pe_str (pa_cons (pv 1) pa_nil))) pa_nil))))))
      (pss_cons (ps_expr (pe_methC (pv 0) T.c_Builder G_Builder_on (hr.mono (by decide)) (pa_cons (pe_tup (pa_cons pe_str (pa_cons (pv 1) pa_nil))) (pa_cons (pe_gint rfl T.i_ROW) (pa_cons (pe_gint rfl T.i_ACTIVE) (pa_cons (pe_un un_neg pe_int) (pa_cons (pe_tup (pa_cons pe_str (pa_cons (pv 1) pa_nil))) pa_nil)))))))
      (pss_one (ps_expr (pe_methC (pv 0) T.c_Builder G_Builder_seek (hr.mono (by decide)) (pa_cons (pe_tup (pa_cons pe_str (pa_cons (pv 1) pa_nil))) (pa_cons (pe_gint rfl T.i_OPEN) (pa_cons (pe_un un_neg pe_int) (pa_cons (pe_tup (pa_cons pe_str (pa_cons (pv 1) pa_nil))) pa_nil))))))))))))))))))))))))), ?_⟩
    unfold choosingB at k
    dsimp (config := { zeta := true }) only at k
    refine ⟨2, rfl, by decide, by decide, for_rangeN (n := 2) (fun i σ H' => ∃ x, σ = [some v, some (vI sg), x, none, none] ∧ BldAt K H' v d l (([0, 1].take i).foldl (choose1 sg) b) ∧ But d l H H' ∧ sz (([0, 1].take i).foldl (choose1 sg) b) ≤ sz b + 60 * i)
      ⟨none, rfl, B, But.refl, by show sz b ≤ _; omega⟩ ?_ ?_⟩
    · rintro dg σ H1 hd ⟨x, rfl, B1, f1, z1⟩
      rw [fold_take (take01 hd)]
      generalize ([0, 1].take dg).foldl (choose1 sg) b = b1 at B1 z1 ⊢
      have zz := sz_choose1 sg b1 dg
      unfold choose1 at zz ⊢
      exact q_seek (i := 0) (n := .again sg dg) (f := .skip sg dg) (s := 4) B1 rfl (by walk_at "nm") (by walk_at "ie") (by walk_at "ie") (by walk_at "nm") (by omega) fun H2 B2 f2 => ⟨_, rfl, B2, f1.trans f2, by omega⟩
    · rintro σ H1 ⟨x, rfl, B1, f1, z1⟩
      rw [show ([0, 1] : List Nat).take 2 = [0, 1] from rfl] at B1 z1
      generalize [0, 1].foldl (choose1 sg) b = b1 at B1 z1 k
      refine q_seek (i := 0) (n := .skip sg 1) (f := .skip sg 0) (s := 12) B1 rfl (by walk_at "nm") (by walk_at "ie") (by walk_at "ie") (by walk_at "nm") (by omega) fun H2 B2 f2 => ?_
      have z2 := sz_seek b1 (.skip sg 1) 12 1 (.skip sg 0)
      generalize seekB b1 (.skip sg 1) 12 1 (.skip sg 0) = b2 at B2 z2 k
      have f2' := f1.trans f2
      refine q_keep (i := 0) (n := .skip sg 0) (f := .over sg) (ss := [7, 8]) B2 rfl (by walk_at "nm") (sg_tup (by walk_at "ar") (by decide)) (by walk_at "ie") (by walk_at "nm") (by decide) (by omega) fun H3 B3 f3 => ?_
      have z3 := sz_keep b2 (.skip sg 0) [7, 8] 1 (.over sg)
      rw [show ([7, 8] : List Nat).length = 2 from rfl] at z3
      generalize keepB b2 (.skip sg 0) [7, 8] 1 (.over sg) = b3 at B3 z3 k
      have f3' := f2'.trans f3
      refine q_keep (i := 0) (n := .over sg) (f := .units sg) (ss := mvs) B3 rfl (by walk_at "nm") (sg_kd T B3.lst) (by walk_at "ie") (by walk_at "nm") (by decide) (by omega) fun H4 B4 f4 => ?_
      have z4 := sz_keep b3 (.over sg) mvs 1 (.units sg)
      rw [show mvs.length = 3 from rfl] at z4
      generalize keepB b3 (.over sg) mvs 1 (.units sg) = b4 at B4 z4 k
      have f4' := f3'.trans f4
      refine q_on (i := 0) (n := .units sg) (f := .units sg) (s := 5) (wr := 6) B4 rfl (by walk_at "nm") (by walk_at "ie") (by walk_at "ie") (by walk_at "ie") (by walk_at "nm") (by omega) fun H5 B5 f5 => ?_
      have z5 := sz_on b4 (.units sg) 5 6 1 (.units sg)
      generalize onB b4 (.units sg) 5 6 1 (.units sg) = b5 at B5 z5 k
      have f5' := f4'.trans f5
      refine q_on (i := 0) (n := .units sg) (f := .unmark sg) (s := 12) (wr := 12) B5 rfl (by walk_at "nm") (by walk_at "ie") (by walk_at "ie") (by walk_at "ie") (by walk_at "nm") (by omega) fun H6 B6 f6 => ?_
      have z6 := sz_on b5 (.units sg) 12 12 (-1) (.unmark sg)
      generalize onB b5 (.units sg) 12 12 (-1) (.unmark sg) = b6 at B6 z6 k
      have f6' := f5'.trans f6
      refine q_keep (i := 0) (n := .unmark sg) (f := .unmark sg) (ss := others fun o => o != 4) B6 rfl (by walk_at "nm") (sg_lc (fun o => o != 4) B6.lst (fun _ => rfl) (fun i H Qk _ kk => ne_test (s := 4) rfl kk) (fun _ => rfl)) (by walk_at "ie") (by walk_at "nm") (Nat.le_trans (len_others _) (by decide)) (by omega) fun H7 B7 f7 => ?_
      have z7 := sz_keep b6 (.unmark sg) (others fun o => o != 4) (-1) (.unmark sg)
      have y7 := len_others fun o => o != 4
      generalize keepB b6 (.unmark sg) (others fun o => o != 4) (-1) (.unmark sg) = b7 at B7 z7 k
      have f7' := f6'.trans f7
      refine q_on (i := 0) (n := .unmark sg) (f := .left sg) (s := 4) (wr := 3) B7 rfl (by walk_at "nm") (by walk_at "ie") (by walk_at "ie") (by walk_at "ie") (by walk_at "nm") (by omega) fun H8 B8 f8 => ?_
      have z8 := sz_on b7 (.unmark sg) 4 3 (-1) (.left sg)
      generalize onB b7 (.unmark sg) 4 3 (-1) (.left sg) = b8 at B8 z8 k
      have f8' := f7'.trans f8
      refine q_seek (i := 0) (n := .left sg) (f := .first sg) (s := 1) B8 rfl (by walk_at "nm") (by walk_at "ie") (by walk_at "ie") (by walk_at "nm") (by omega) fun H9 B9 f9 => ?_
      have z9 := sz_seek b8 (.left sg) 1 (-1) (.first sg)
      generalize seekB b8 (.left sg) 1 (-1) (.first sg) = b9 at B9 z9 k
      have f9' := f8'.trans f9
      refine q_on (i := 0) (n := .first sg) (f := .seek sg) (s := 3) (wr := 4) B9 rfl (by walk_at "nm") (by walk_at "ie") (by walk_at "ie") (by walk_at "ie") (by walk_at "nm") (by omega) fun H10 B10 f10 => ?_
      have z10 := sz_on b9 (.first sg) 3 4 1 (.seek sg)
      generalize onB b9 (.first sg) 3 4 1 (.seek sg) = b10 at B10 z10 k
      have f10' := f9'.trans f10
      -- others = [..]
      dsimp only
      refine seq_asg ?_
      refine sg_lc (l := l) (j := 4) (σ := [some v, some (vI sg), x, none, none]) (fun o => !(o == 6 || o == 2)) B10.lst (fun _ => rfl) (tt := tTest (tOp (rIn K true) (tVar 4) (tTup (tCons (tC (.int 6)) (tCons (tC (.int 2)) tNil))))) (fun i H Qk _ kk => not_test2 (K := K) (j := 4) rfl kk) (fun _ => rfl) H10 _ (Same.refl _) fun ot H11 s11 ho => ?_
      have B11 := B10.same s11
      have f11' := f10'.trans (But.of (d := d) (l := l) s11)
      refine q_keep (i := 0) (n := .seek sg) (f := .seek sg) (ss := others fun o => !(o == 6 || o == 2)) B11 rfl (by walk_at "nm") (sg_var rfl ho) (by walk_at "ie") (by walk_at "nm") (Nat.le_trans (len_others _) (by decide)) (by omega) fun H12 B12 f12 => ?_
      have z12 := sz_keep b10 (.seek sg) (others fun o => !(o == 6 || o == 2)) 1 (.seek sg)
      have y12 := len_others fun o => !(o == 6 || o == 2)
      generalize keepB b10 (.seek sg) (others fun o => !(o == 6 || o == 2)) 1 (.seek sg) = b12 at B12 z12 k
      have f12' := f11'.trans f12
      refine q_on (i := 0) (n := .seek sg) (f := .rewind sg) (s := 6) (wr := 5) B12 rfl (by walk_at "nm") (by walk_at "ie") (by walk_at "ie") (by walk_at "ie") (by walk_at "nm") (by omega) fun H13 B13 f13 => ?_
      have z13 := sz_on b12 (.seek sg) 6 5 (-1) (.rewind sg)
      generalize onB b12 (.seek sg) 6 5 (-1) (.rewind sg) = b13 at B13 z13 k
      have f13' := f12'.trans f13
      refine q_seek (i := 0) (n := .rewind sg) (f := .active sg) (s := 1) B13 rfl (by walk_at "nm") (by walk_at "ie") (by walk_at "ie") (by walk_at "nm") (by omega) fun H14 B14 f14 => ?_
      have z14 := sz_seek b13 (.rewind sg) 1 (-1) (.active sg)
      generalize seekB b13 (.rewind sg) 1 (-1) (.active sg) = b14 at B14 z14 k
      have f14' := f13'.trans f14
      refine q_keep (i := 0) (n := .active sg) (f := .active sg) (ss := others fun o => o != 4) B14 rfl (by walk_at "nm") (sg_lc (fun o => o != 4) B14.lst (fun _ => rfl) (fun i H Qk _ kk => ne_test (s := 4) rfl kk) (fun _ => rfl)) (by walk_at "ie") (by walk_at "nm") (Nat.le_trans (len_others _) (by decide)) (by omega) fun H15 B15 f15 => ?_
      have z15 := sz_keep b14 (.active sg) (others fun o => o != 4) 1 (.active sg)
      generalize keepB b14 (.active sg) (others fun o => o != 4) 1 (.active sg) = b15 at B15 z15 k
      have f15' := f14'.trans f15
      refine q_on (i := 0) (n := .active sg) (f := .next sg) (s := 4) (wr := 3) B15 rfl (by walk_at "nm") (by walk_at "ie") (by walk_at "ie") (by walk_at "ie") (by walk_at "nm") (by omega) fun H16 B16 f16 => ?_
      have z16 := sz_on b15 (.active sg) 4 3 1 (.next sg)
      generalize onB b15 (.active sg) 4 3 1 (.next sg) = b16 at B16 z16 k
      have f16' := f15'.trans f16
      refine q_keep (i := 0) (n := .next sg) (f := .next sg) (ss := others fun o => o != 3) B16 rfl (by walk_at "nm") (sg_lc (fun o => o != 3) B16.lst (fun _ => rfl) (fun i H Qk _ kk => ne_test (s := 3) rfl kk) (fun _ => rfl)) (by walk_at "ie") (by walk_at "nm") (Nat.le_trans (len_others _) (by decide)) (by omega) fun H17 B17 f17 => ?_
      have z17 := sz_keep b16 (.next sg) (others fun o => o != 3) 1 (.next sg)
      have y17 := len_others fun o => o != 3
      generalize keepB b16 (.next sg) (others fun o => o != 3) 1 (.next sg) = b17 at B17 z17 k
      have f17' := f16'.trans f17
      refine q_on (i := 0) (n := .next sg) (f := .restart sg) (s := 3) (wr := 4) B17 rfl (by walk_at "nm") (by walk_at "ie") (by walk_at "ie") (by walk_at "ie") (by walk_at "nm") (by omega) fun H18 B18 f18 => ?_
      have z18 := sz_on b17 (.next sg) 3 4 (-1) (.restart sg)
      generalize onB b17 (.next sg) 3 4 (-1) (.restart sg) = b18 at B18 z18 k
      have f18' := f17'.trans f18
      refine q_seek (i := 0) (n := .restart sg) (f := .seek sg) (s := 1) B18 rfl (by walk_at "nm") (by walk_at "ie") (by walk_at "ie") (by walk_at "nm") (by omega) fun H19 B19 f19 => ?_
      have z19 := sz_seek b18 (.restart sg) 1 (-1) (.seek sg)
      exact k H19 B19 (f18'.trans f19) (by omega)
end
end TH
/-! write_moving and universal. -/
namespace TH
open PySem PySem.Spec PyProof.Rows L2 UM
local macro_rules | `(tactic| walk_at "ie") => `(tactic| first
  | exact ie_c
  | exact ie_var rfl
  | exact ie_neg ie_c
  | exact ie_add ie_c (ie_var rfl)
  | exact ie_is (ie_add ie_c (ie_var rfl)) (vI_eq (by omega))
  | exact ie_is (ie_var rfl) (vI_eq (by omega)))
local macro_rules | `(tactic| walk_at "ar") => `(tactic| repeat (first
  | exact ar_nil
  | (refine ar_cons ie_c ?_)
  | (refine ar_cons (ie_var rfl) ?_)))
local macro_rules | `(tactic| walk_at "nm") => `(tactic| exact nm_name (by walk_at "ar"))
section
variable {P : Program} {w : World} {K : PySem.W.Frag} {mg : Str → Option Value} {base : Heap}
theorem sz_move2 (c : Nat) (b : BS) (s : Nat) : sz (move2 c b s) ≤ sz b + 8 := by
  unfold move2
  dsimp only
  have h : ∀ b' : BS, sz (if c = 1 then onB b' (.carry c) s c 0 .home else onB b' (.carry c) s c (-1) (.carry (max 1 s))) ≤ sz b' + 4 := fun b' => by
    split
    · exact sz_on _ _ _ _ _ _
    · exact sz_on _ _ _ _ _ _
  refine Nat.le_trans (h _) ?_
  have : sz (if c = 2 then onB b (.right c) s c (-1) .homeward else onB b (.right c) s c 1 (.right (max 1 s))) ≤ sz b + 4 := by
    split
    · exact sz_on _ _ _ _ _ _
    · exact sz_on _ _ _ _ _ _
  omega
theorem sz_move1 (b : BS) (c : Nat) : sz (move1 b c) ≤ sz b + 112 := by
  unfold move1
  exact sz_fold (sz_move2 c) (List.range 14) b
theorem take13 {i : Nat} (h : i < 13) : ((List.range 13).map (1 + ·))[i]? = some (1 + i) := by
  rw [List.getElem?_map, List.getElem?_range h]
  rfl
theorem take14 {i : Nat} (h : i < 14) : (List.range 14)[i]? = some i := List.getElem?_range h
theorem eq_test {i s : Nat} {j : Nat} {σ : L2.St} {H : Hp} {Qk : Bool → Hp → Prop} (h : σ[j]? = some (some (vI i))) (k : Qk (decide (i = s)) H) : tTest (tOp rEq (tVar j) (tC (vI s))) σ H Qk := by
  refine ⟨_, h, rfl, _, rfl, ?_⟩
  have : decide (V.int (i : Int) = V.int (s : Int)) = decide (i = s) := by
    apply decide_eq_decide.mpr
    exact ⟨fun z => by injection z; omega, fun z => by rw [z]⟩
  rw [this]
  exact k
theorem ie_max {σ : L2.St} {te : TE} {s : Nat} (h : InE te σ (vI s)) : InE (tCB (fun xs H Q => ∃ i j, xs = [V.int i, V.int j] ∧ Q (V.int (if j > i then j else i)) H) (tCons (tC (.int 1)) (tCons te tNil))) σ (vI (max 1 s)) := fun H Qk k => by
  refine h H _ ⟨1, s, rfl, ?_⟩
  have : (if (s : Int) > 1 then (s : Int) else 1) = ((max 1 s : Nat) : Int) := by
    split <;> omega
  rw [this]
  exact k
theorem sgAt_but {H H' : Hp} {v : V} {d l a : Addr} {b : BS} {ss : List Nat} (B : BldAt K H v d l b) (f : But d l H H') (h : SgAt H l a ss) : SgAt H' l a ss := by
  rcases h with ⟨q, nl⟩ | q
  · exact .inl ⟨f.lst B q nl, nl⟩
  · exact .inr (f.tup B q)
abbrev sc_wmoveN : List Str := ["builder", "others", "carried", "sign", "other"]
theorem sc_wmove : FnScope sc_wmoveN ["builder"] (defScope s_write_moving) := ⟨rfl, rfl, rfl, by decide +kernel, rfl, by decide +kernel, by decide +kernel⟩
theorem ok_wmove {f : Addr} {fd : FuncData} (F : FnP K d_write_moving f fd) (T : Tx K mg) (G_Builder_on : Met P w K mg base 2 (CB K) "on" ["self", "name", "sign", "written", "move", "following"] (spOn K)) (G_Builder_keep : Met P w K mg base 3 (CB K) "keep" ["self", "name", "signs", "move", "following"] (spKeep K)) : FnOk P w K mg base CX0 5 f fd ["builder"] (spWR K movingB) := by
  refine F.ok sc_wmove (fun vs H Q E h => ?_) (fun cdv A outer s H vs Q E hr h => ?_)
  · obtain ⟨v, d, l, b, rfl, _⟩ := h
    rfl
  · obtain ⟨v, d, l, b, rfl, B, hz, k⟩ := h
    refine ⟨_, PSs.nox (pss_cons (ps_setLc (i := 1) (own := [("other", 4)]) (g := gName 4) (by rfl) sc_wmove.nd rfl rfl (sw_true rfl rfl rfl (by decide +kernel)) (pi_range1 (by rfl) T.f_range (pa_cons (pe_gint rfl T.i_SIGNS) pa_nil)) (blkOk_by (own := [("other", 4)]) (N := sc_wmoveN) (sc := defScope s_write_moving) (by decide +kernel)) (fun _ _ _ _ _ => pg_name (i := 4) sc_wmove.nd rfl (Or.inl rfl)) (fun _ _ _ _ _ => (pts_one (pt_cmpR op_ne (pv 4) (pe_gint rfl T.i_OPEN) (nomark _)))) (fun _ _ _ _ _ => (pv 4)))
      (pss_cons (ps_expr (pe_methC (pv 0) T.c_Builder G_Builder_on (hr.mono (by decide)) (pa_cons (pe_tup (pa_cons pe_str (pa_cons (pe_gint rfl T.i_STAY) pa_nil))) (pa_cons (pe_gint rfl T.i_CLOSE) (pa_cons (pe_gint rfl T.i_CLOSE) (pa_cons (pe_un un_neg pe_int) (pa_cons (pe_tup (pa_cons pe_str pa_nil)) pa_nil)))))))
      (pss_cons (ps_expr (pe_methC (pv 0) T.c_Builder G_Builder_keep (hr.mono (by decide)) (pa_cons (pe_tup (pa_cons pe_str pa_nil)) (pa_cons (pv 1) (pa_cons (pe_un un_neg pe_int) (pa_cons (pe_tup (pa_cons pe_str pa_nil)) pa_nil))))))
      (pss_cons (ps_expr (pe_methC (pv 0) T.c_Builder G_Builder_on (hr.mono (by decide)) (pa_cons (pe_tup (pa_cons pe_str pa_nil)) (pa_cons (pe_gint rfl T.i_OPEN) (pa_cons (pe_gint rfl T.i_OPEN) (pa_cons pe_int (pa_cons (pe_tup (pa_cons pe_str pa_nil)) pa_nil)))))))
      (pss_cons (ps_expr (pe_methC (pv 0) T.c_Builder G_Builder_on (hr.mono (by decide)) (pa_cons (pe_tup (pa_cons pe_str (pa_cons (pe_gint rfl T.i_RIGHT) pa_nil))) (pa_cons (pe_gint rfl T.i_CLOSE) (pa_cons (pe_gint rfl T.i_CLOSE) (pa_cons (pe_un un_neg pe_int) (pa_cons (pe_tup (pa_cons pe_str pa_nil)) pa_nil)))))))
      (pss_cons (ps_expr (pe_methC (pv 0) T.c_Builder G_Builder_keep (hr.mono (by decide)) (pa_cons (pe_tup (pa_cons pe_str pa_nil)) (pa_cons (pv 1) (pa_cons (pe_un un_neg pe_int) (pa_cons (pe_tup (pa_cons pe_str pa_nil)) pa_nil))))))
      (pss_cons (ps_expr (pe_methC (pv 0) T.c_Builder G_Builder_on (hr.mono (by decide)) (pa_cons (pe_tup (pa_cons pe_str pa_nil)) (pa_cons (pe_gint rfl T.i_OPEN) (pa_cons (pe_gint rfl T.i_NOTHING) (pa_cons pe_int (pa_cons (pe_tup (pa_cons pe_str (pa_cons (pe_gint rfl T.i_OPEN) pa_nil))) pa_nil)))))))
      (pss_cons (ps_expr (pe_methC (pv 0) T.c_Builder G_Builder_on (hr.mono (by decide)) (pa_cons (pe_tup (pa_cons pe_str (pa_cons (pe_gint rfl T.i_LEFT) pa_nil))) (pa_cons (pe_gint rfl T.i_CLOSE) (pa_cons (pe_gint rfl T.i_NOTHING) (pa_cons (pe_un un_neg pe_int) (pa_cons (pe_tup (pa_cons pe_str (pa_cons pe_str (pa_cons (pe_gint rfl T.i_CLOSE) pa_nil)))) pa_nil)))))))
      (pss_one (ps_for PassesOwn.never (by rfl) (pi_range2 (by rfl) T.f_range (pa_cons pe_int (pa_cons (pe_gint rfl T.i_SIGNS) pa_nil))) (pg_name (i := 2) sc_wmove.nd rfl (Or.inl rfl)) (pss_one (ps_for PassesOwn.never (by rfl) (pi_range1 (by rfl) T.f_range (pa_cons (pe_gint rfl T.i_SIGNS) pa_nil)) (pg_name (i := 3) sc_wmove.nd rfl (Or.inl rfl)) (pss_cons (ps_if (pt_cmpR op_eq (pv 2) (pe_gint rfl T.i_CLOSE) (nomark _)) (pss_one (ps_expr (pe_methC (pv 0) T.c_Builder G_Builder_on (hr.mono (by decide)) (pa_cons (pe_tup (pa_cons pe_str (pa_cons (pv 2) pa_nil))) (pa_cons (pv 3) (pa_cons (pv 2) (pa_cons (pe_un un_neg pe_int) (pa_cons (pe_tup (pa_cons pe_str pa_nil)) pa_nil)))))))) (pss_one (ps_expr (pe_methC (pv 0) T.c_Builder G_Builder_on (hr.mono (by decide)) (pa_cons (pe_tup (pa_cons pe_str (pa_cons (pv 2) pa_nil))) (pa_cons (pv 3) (pa_cons (pv 2) (pa_cons pe_int (pa_cons (pe_tup (pa_cons pe_str (pa_cons (pe_callB (call_max2 rfl) (by rfl) T.f_max (by decide +kernel) (pa_cons pe_int (pa_cons (pv 3) pa_nil))) pa_nil))) pa_nil)))))))))
      (pss_one (ps_if (pt_cmpR op_eq (pv 2) (pe_gint rfl T.i_OPEN) (nomark _)) (pss_one (ps_expr (pe_methC (pv 0) T.c_Builder G_Builder_on (hr.mono (by decide)) (pa_cons (pe_tup (pa_cons pe_str (pa_cons pe_str (pa_cons (pv 2) pa_nil)))) (pa_cons (pv 3) (pa_cons (pv 2) (pa_cons pe_int (pa_cons (pe_tup (pa_cons pe_str pa_nil)) pa_nil)))))))) (pss_one (ps_expr (pe_methC (pv 0) T.c_Builder G_Builder_on (hr.mono (by decide)) (pa_cons (pe_tup (pa_cons pe_str (pa_cons pe_str (pa_cons (pv 2) pa_nil)))) (pa_cons (pv 3) (pa_cons (pv 2) (pa_cons (pe_un un_neg pe_int) (pa_cons (pe_tup (pa_cons pe_str (pa_cons pe_str (pa_cons (pe_callB (call_max2 rfl) (by rfl) T.f_max (by decide +kernel) (pa_cons pe_int (pa_cons (pv 3) pa_nil))) pa_nil)))) pa_nil))))))))))))))))))))))), ?_⟩
    unfold movingB at k
    dsimp (config := { zeta := true }) only at k
    refine seq_asg ?_
    refine sg_lc (l := l) (j := 4) (σ := [some v, none, none, none, none]) (fun o => o != 1) B.lst (fun _ => rfl) (tt := tTest (tOp rNe (tVar 4) (tC (.int 1)))) (fun i H Qk _ kk => ne_test (s := 1) (j := 4) rfl kk) (fun _ => rfl) H _ (Same.refl _) fun ot H1 s1 ho => ?_
    have B1 := B.same s1
    have f1 : But d l H H1 := But.of s1
    have yo := len_others fun o => o != 1
    have ho1 := ho
    have g1 := f1
    have z1 : sz b ≤ 10000 := hz
    generalize hb1 : b = b1 at B1 z1 k
    refine q_on (i := 0) (n := .seek 10) (f := .homeward) (s := 2) (wr := 2) B1 rfl (by walk_at "nm") (by walk_at "ie") (by walk_at "ie") (by walk_at "ie") (by walk_at "nm") (by omega) fun H2 B2 f2 => ?_
    have z2 := sz_on b1 (.seek 10) 2 2 (-1) .homeward
    generalize onB b1 (.seek 10) 2 2 (-1) .homeward = b2 at B2 z2 k
    have g2 := g1.trans f2
    have ho2 := sgAt_but (B1) f2 ho1
    refine q_keep (i := 0) (n := .homeward) (f := .homeward) (ss := others fun o => o != 1) B2 rfl (by walk_at "nm") (sg_var rfl ho2) (by walk_at "ie") (by walk_at "nm") (Nat.le_trans (len_others _) (by decide)) (by omega) fun H3 B3 f3 => ?_
    have z3 := sz_keep b2 .homeward (others fun o => o != 1) (-1) .homeward
    generalize keepB b2 .homeward (others fun o => o != 1) (-1) .homeward = b3 at B3 z3 k
    have g3 := g2.trans f3
    have ho3 := sgAt_but (B2) f3 ho2
    refine q_on (i := 0) (n := .homeward) (f := .home) (s := 1) (wr := 1) B3 rfl (by walk_at "nm") (by walk_at "ie") (by walk_at "ie") (by walk_at "ie") (by walk_at "nm") (by omega) fun H4 B4 f4 => ?_
    have z4 := sz_on b3 .homeward 1 1 0 .home
    generalize onB b3 .homeward 1 1 0 .home = b4 at B4 z4 k
    have g4 := g3.trans f4
    have ho4 := sgAt_but (B3) f4 ho3
    refine q_on (i := 0) (n := .seek 11) (f := .begin_) (s := 2) (wr := 2) B4 rfl (by walk_at "nm") (by walk_at "ie") (by walk_at "ie") (by walk_at "ie") (by walk_at "nm") (by omega) fun H5 B5 f5 => ?_
    have z5 := sz_on b4 (.seek 11) 2 2 (-1) .begin_
    generalize onB b4 (.seek 11) 2 2 (-1) .begin_ = b5 at B5 z5 k
    have g5 := g4.trans f5
    have ho5 := sgAt_but (B4) f5 ho4
    refine q_keep (i := 0) (n := .begin_) (f := .begin_) (ss := others fun o => o != 1) B5 rfl (by walk_at "nm") (sg_var rfl ho5) (by walk_at "ie") (by walk_at "nm") (Nat.le_trans (len_others _) (by decide)) (by omega) fun H6 B6 f6 => ?_
    have z6 := sz_keep b5 .begin_ (others fun o => o != 1) (-1) .begin_
    generalize keepB b5 .begin_ (others fun o => o != 1) (-1) .begin_ = b6 at B6 z6 k
    have g6 := g5.trans f6
    refine q_on (i := 0) (n := .begin_) (f := (.right 1)) (s := 1) (wr := 0) B6 rfl (by walk_at "nm") (by walk_at "ie") (by walk_at "ie") (by walk_at "ie") (by walk_at "nm") (by omega) fun H7 B7 f7 => ?_
    have z7 := sz_on b6 .begin_ 1 0 1 (.right 1)
    generalize onB b6 .begin_ 1 0 1 (.right 1) = b7 at B7 z7 k
    have g7 := g6.trans f7
    refine q_on (i := 0) (n := .seek 9) (f := (.carry 2)) (s := 2) (wr := 0) B7 rfl (by walk_at "nm") (by walk_at "ie") (by walk_at "ie") (by walk_at "ie") (by walk_at "nm") (by omega) fun H8 B8 f8 => ?_
    have z8 := sz_on b7 (.seek 9) 2 0 (-1) (.carry 2)
    generalize onB b7 (.seek 9) 2 0 (-1) (.carry 2) = b8 at B8 z8 k
    have g8 := g7.trans f8
    refine ⟨1, 14, rfl, by decide, for_rangeA (lo := 1) (n := 13) (fun i σ H' => ∃ x y, σ = [some v, some (.ref ot), x, y, none] ∧ BldAt K H' v d l ((((List.range 13).map (1 + ·)).take i).foldl move1 b8) ∧ But d l H H' ∧ sz ((((List.range 13).map (1 + ·)).take i).foldl move1 b8) ≤ sz b8 + 112 * i)
      ⟨none, none, rfl, B8, g8, by show sz b8 ≤ _; omega⟩ ?_ ?_⟩
    · rintro c σ H9 hc ⟨x, y, rfl, B9, g9, z9⟩
      rw [fold_take (take13 hc)]
      generalize (((List.range 13).map (1 + ·)).take c).foldl move1 b8 = b9 at B9 z9 ⊢
      have zz := sz_move1 b9 (1 + c)
      unfold move1 at zz ⊢
      refine ⟨14, rfl, by decide, by decide, for_rangeN (n := 14) (fun i σ H' => ∃ y, σ = [some v, some (.ref ot), some (vI (1 + c)), y, none] ∧ BldAt K H' v d l (((List.range 14).take i).foldl (move2 (1 + c)) b9) ∧ But d l H H' ∧ sz (((List.range 14).take i).foldl (move2 (1 + c)) b9) ≤ sz b9 + 8 * i)
        ⟨y, rfl, B9, g9, by show sz b9 ≤ _; omega⟩ ?_ ?_⟩
      · rintro s σ H10 hs ⟨y, rfl, B10, g10, z10⟩
        rw [fold_take (take14 hs)]
        generalize ((List.range 14).take s).foldl (move2 (1 + c)) b9 = b10 at B10 z10 ⊢
        have zz2 := sz_move2 (1 + c) b10 s
        unfold move2 at zz2 ⊢
        dsimp (config := { zeta := true }) only at zz2 ⊢
        refine eq_test (i := 1 + c) (s := 2) rfl ?_
        by_cases e2 : 1 + c = 2
        · rw [if_pos (decide_eq_true e2)]
          rw [if_pos e2] at zz2 ⊢
          refine q_on (i := 0) (n := .right (1 + c)) (f := .homeward) (s := s) (wr := 1 + c) B10 rfl (by walk_at "nm") (by walk_at "ie") (by walk_at "ie") (by walk_at "ie") (by walk_at "nm") (by omega) fun H11 B11 f11 => ?_
          have z11 := sz_on b10 (.right (1 + c)) s (1 + c) (-1) .homeward
          generalize onB b10 (.right (1 + c)) s (1 + c) (-1) .homeward = b11 at B11 z11 zz2 ⊢
          refine eq_test (i := 1 + c) (s := 1) rfl ?_
          by_cases e1 : 1 + c = 1
          · rw [if_pos (decide_eq_true e1)]
            rw [if_pos e1] at zz2 ⊢
            exact q_on (i := 0) (n := .carry (1 + c)) (f := .home) (s := s) (wr := 1 + c) B11 rfl (by walk_at "nm") (by walk_at "ie") (by walk_at "ie") (by walk_at "ie") (by walk_at "nm") (by omega) fun H12 B12 f12 => ⟨_, rfl, B12, (g10.trans f11).trans f12, by omega⟩
          · rw [if_neg (fun z => e1 (of_decide_eq_true z))]
            rw [if_neg e1] at zz2 ⊢
            exact q_on (i := 0) (n := .carry (1 + c)) (f := .carry (max 1 s)) (s := s) (wr := 1 + c) B11 rfl (by walk_at "nm") (by walk_at "ie") (by walk_at "ie") (by walk_at "ie") (nm_name (ar_cons ie_c (ar_cons ie_c (ar_cons (ie_max (ie_var rfl)) ar_nil)))) (by omega) fun H12 B12 f12 => ⟨_, rfl, B12, (g10.trans f11).trans f12, by omega⟩
        · rw [if_neg (fun z => e2 (of_decide_eq_true z))]
          rw [if_neg e2] at zz2 ⊢
          refine q_on (i := 0) (n := .right (1 + c)) (f := .right (max 1 s)) (s := s) (wr := 1 + c) B10 rfl (by walk_at "nm") (by walk_at "ie") (by walk_at "ie") (by walk_at "ie") (nm_name (ar_cons ie_c (ar_cons (ie_max (ie_var rfl)) ar_nil))) (by omega) fun H11 B11 f11 => ?_
          have z11 := sz_on b10 (.right (1 + c)) s (1 + c) 1 (.right (max 1 s))
          generalize onB b10 (.right (1 + c)) s (1 + c) 1 (.right (max 1 s)) = b11 at B11 z11 zz2 ⊢
          refine eq_test (i := 1 + c) (s := 1) rfl ?_
          by_cases e1 : 1 + c = 1
          · rw [if_pos (decide_eq_true e1)]
            rw [if_pos e1] at zz2 ⊢
            exact q_on (i := 0) (n := .carry (1 + c)) (f := .home) (s := s) (wr := 1 + c) B11 rfl (by walk_at "nm") (by walk_at "ie") (by walk_at "ie") (by walk_at "ie") (by walk_at "nm") (by omega) fun H12 B12 f12 => ⟨_, rfl, B12, (g10.trans f11).trans f12, by omega⟩
          · rw [if_neg (fun z => e1 (of_decide_eq_true z))]
            rw [if_neg e1] at zz2 ⊢
            exact q_on (i := 0) (n := .carry (1 + c)) (f := .carry (max 1 s)) (s := s) (wr := 1 + c) B11 rfl (by walk_at "nm") (by walk_at "ie") (by walk_at "ie") (by walk_at "ie") (nm_name (ar_cons ie_c (ar_cons ie_c (ar_cons (ie_max (ie_var rfl)) ar_nil)))) (by omega) fun H12 B12 f12 => ⟨_, rfl, B12, (g10.trans f11).trans f12, by omega⟩
      · rintro σ H10 ⟨y, rfl, B10, g10, z10⟩
        rw [show (List.range 14).take 14 = List.range 14 from rfl] at B10 z10
        exact ⟨_, _, rfl, B10, g10, by omega⟩
    · rintro σ H9 ⟨x, y, rfl, B9, g9, z9⟩
      rw [show ((List.range 13).map (1 + ·)).take 13 = (List.range 13).map (1 + ·) from rfl] at B9
      exact k H9 B9 g9
end
end TH
/-! stripped, moved, and the machines. -/
namespace TH
open PySem PySem.Spec PyProof.Rows L2 UM
section
variable {P : Program} {w : World} {K : PySem.W.Frag} {mg : Str → Option Value} {base : Heap}
theorem cutV_take {xs : List V} {n : Nat} (h : n ≤ xs.length) : cutV xs none (some (n : Int)) = xs.take n := by
  unfold cutV
  rw [HT.sIx_none, HT.sIx_nat, List.drop_zero, Nat.sub_zero, Nat.min_eq_left h]
theorem cutV_drop {xs : List V} {n : Nat} : cutV xs (some (n : Int)) none = xs.drop n := by
  unfold cutV
  rw [HT.sIx_none, HT.sIx_nat]
  by_cases h : n ≤ xs.length
  · rw [Nat.min_eq_left h, List.take_of_length_le (by rw [List.length_drop]; exact Nat.le_refl _)]
  · rw [Nat.min_eq_right (by omega), List.drop_eq_nil_of_le (Nat.le_refl _), List.drop_eq_nil_of_le (by omega : xs.length ≤ n), List.take_nil]
/-- two tuples on one another -/
theorem catA {H : Hp} {a b : Addr} {xs ys : List V} {Qk : VK} (ha : H a = some (.tup xs)) (hb : H b = some (.tup ys)) (hz : xs.length + ys.length ≤ 100000) (k : ∀ p H', Same H H' → H' p = some (.tup (xs ++ ys)) → Qk (.ref p) H') : rCatA K (.ref a) (.ref b) H Qk := by
  refine ⟨a, b, xs, ys, rfl, rfl, SqT.of ha, SqT.of hb, Nat.le_trans hz (by decide), fun e => ?_, fun _ e => ?_, fun _ _ p hp => k p _ (same_new hp) upd_same⟩
  · rw [e] at k
    exact k b H (Same.refl H) hb
  · rw [e, List.append_nil] at k
    exact k a H (Same.refl H) ha
/-- a slice of a tuple -/
theorem slA {H : Hp} {a : Addr} {xs : List V} {lo hi : Option Int} {Qk : VK} (ha : H a = some (.tup xs)) (k : ∀ p H', Same H H' → H' p = some (.tup (cutV xs lo hi)) → Qk (.ref p) H') : rSlA K (.ref a) lo hi H Qk := by
  refine ⟨a, xs, rfl, SqT.of ha, fun ⟨h1, h2⟩ => k a H (Same.refl H) ?_, fun _ p hp => k p _ (same_new hp) upd_same⟩
  unfold cutV
  rw [h1, h2, List.drop_zero, Nat.sub_zero, List.take_length]
  exact ha
theorem seq_cut {t u : TS} {D : Ends} {σ : L2.St} {H : Hp} (Mid : L2.St → Hp → Prop) (h2 : ∀ σ' H', Mid σ' H' → u D σ' H') (h1 : (∀ σ' H', Mid σ' H' → u D σ' H') → t { D with nx := u D } σ H) : tSeq t u D σ H := h1 h2
theorem vI_inj {a b : Nat} (h : vI a = vI b) : a = b := by injection h; omega
theorem atI_vIs {ns : List Nat} {z : Int} {i : Nat} (h : z = (i : Int)) (hi : i < ns.length) : atI (vIs ns) z = some (vI (g ns i)) := by
  rw [h]
  exact atI_nat (by rw [List.getElem?_map, g_lt hi]; rfl)
def spStrip : Sp := fun vs H Qk _ => ∃ (a : Addr) (ns : List Nat), vs = [.ref a] ∧ H a = some (.lst (vIs ns)) ∧ ns.length ≤ 100000 ∧ ∀ p H', Same H H' → H' p = some (.tup (vIs (strip ns))) → Qk (.ref p) H'
abbrev sc_strippedN : List Str := ["symbols", "size"]
theorem sc_stripped : FnScope sc_strippedN ["symbols"] (defScope s_stripped) := ⟨rfl, rfl, rfl, by decide +kernel, rfl, by decide +kernel, by decide +kernel⟩
theorem ok_stripped {f : Addr} {fd : FuncData} (F : FnP K d_stripped f fd) (T : Tx K mg) : FnOk P w K mg base CX0 1 f fd ["symbols"] spStrip := by
  refine F.ok sc_stripped (fun vs H Q E h => ?_) (fun cdv A outer s H vs Q E hr h => ?_)
  · obtain ⟨a, ns, rfl, _⟩ := h
    rfl
  · obtain ⟨a, ns, rfl, ha, hl, k⟩ := h
    refine ⟨_, PSs.nox (pss_cons (ps_set (i := 1) sc_stripped.nd rfl (Or.inl rfl) (pe_callB call_len_seq (by rfl) T.f_len PySem.boot_len (pa_cons (pv 0) pa_nil)))
      (pss_cons (ps_while PassesOwn.never (PW.pt (pw_and (pt_cmpR op_gt (pv 1) pe_int (nomark _)) (pw_and1 (pt_cmpR op_eq (pe_ix ix_list (pv 0) (pe_op op_sub (pv 1) pe_int) (fun _ _ => rfl)) (pe_gint rfl T.i_BLANK) (nomark _))))) (pss_one (ps_aug (i := 1) sc_stripped.nd rfl (Or.inl rfl) pe_int ip_sub)))
      (pss_one (ps_ret (pe_callTy call_tuple_of (by rfl) T.f_tuple (by decide +kernel) (pa_cons (pe_slice sl_list (pv 0) po_none (po_some (pv 1))) pa_nil)))))), ?_⟩
    refine ⟨_, rfl, a, _, rfl, .inl (SqL.of ha), ?_⟩
    refine ⟨fun m σ H' => σ = [some (.ref a), some (vI m)] ∧ H' = H ∧ m ≤ ns.length ∧ ∀ i, m ≤ i → i < ns.length → g ns i = 0, ⟨ns.length, (by rw [vIs_len]; rfl), rfl, Nat.le_refl _, fun i h1 h2 => by omega⟩, ?_⟩
    rintro m σ H' ⟨rfl, rfl, hm, hz⟩
    -- what comes behind the loop
    have out : (m = 0 ∨ g ns (m - 1) ≠ 0) → ∀ p, H' p = none → ∀ l, upd H' p (.lst (cutV (vIs ns) none (some (m : Int)))) l = none → Q (.ref l) (upd (upd H' p (.lst (cutV (vIs ns) none (some (m : Int))))) l (.tup (cutV (vIs ns) none (some (m : Int))))) := fun h2 p hp l hl => by
      refine k l _ ((same_new hp).trans (same_new hl)) ?_
      rw [upd_same, cutV_take (by rw [vIs_len]; exact hm), strip_take hm hz h2]
      unfold vIs
      rw [List.map_take]
    refine ⟨_, rfl, _, _, rfl, rfl, _, rfl, iteB (fun h1 => ?_) fun h1 => ?_⟩
    · have hm0 : 0 < m := by have := of_decide_eq_true h1; omega
      have hg := g_lt (l := ns) (i := m - 1) (by omega)
      refine ⟨_, rfl, _, rfl, _, _, rfl, rfl, a, _, _, _, rfl, rfl, SqL.of ha, atI_vIs (by omega) (by omega : m - 1 < ns.length), rfl, _, rfl, iteB (fun h2 => ?_) fun h2 => ?_⟩
      · have e2 : g ns (m - 1) = 0 := vI_inj (of_decide_eq_true h2)
        refine ⟨_, fun σ' H' z => z, ?_⟩
        refine ⟨_, rfl, _, _, rfl, rfl, m - 1, by omega, ?_, rfl, by omega, fun i q1 q2 => ?_⟩
        · show [some (V.ref a), some (V.int ((m : Int) - 1))] = _
          rw [vI_eq (a := (m : Int) - 1) (b := m - 1) (by omega)]
        · rcases (by omega : i = m - 1 ∨ m ≤ i) with rfl | q3
          · exact e2
          · exact hz i q3 q2
      · have e2 : g ns (m - 1) ≠ 0 := fun z => of_decide_eq_false h2 (by rw [z]; rfl)
        exact ⟨_, rfl, _, rfl, _, rfl, a, _, rfl, SqL.of ha, fun p hp => ⟨p, _, rfl, .inl ⟨SqL.of upd_same, out (.inr e2) p hp⟩⟩⟩
    · have hm0 : m = 0 := by have := of_decide_eq_false h1; omega
      exact ⟨_, rfl, _, rfl, _, rfl, a, _, rfl, SqL.of ha, fun p hp => ⟨p, _, rfl, .inl ⟨SqL.of upd_same, out (.inl hm0) p hp⟩⟩⟩
def spMoved : Sp := fun vs H Qk _ => ∃ (bv av : V) (wr : Nat) (b a : List Nat), vs = [bv, vI wr, av] ∧ TupI H bv b ∧ TupI H av a ∧ b.length + a.length ≤ 90000 ∧
  ∀ p x y H', Same H H' → H' p = some (.tup [x, vI (a.headD 0), y]) → TupI H' x (push wr b) → TupI H' y a.tail → Qk (.ref p) H'
abbrev sc_movedN : List Str := ["behind", "written", "ahead"]
theorem sc_moved : FnScope sc_movedN ["behind", "written", "ahead"] (defScope s_moved) := ⟨rfl, rfl, rfl, by decide +kernel, rfl, by decide +kernel, by decide +kernel⟩
theorem ok_moved {f : Addr} {fd : FuncData} (F : FnP K d_moved f fd) (T : Tx K mg) : FnOk P w K mg base CX0 1 f fd ["behind", "written", "ahead"] spMoved := by
  refine F.ok sc_moved (fun vs H Q E h => ?_) (fun cdv A outer s H vs Q E hr h => ?_)
  · obtain ⟨bv, av, wr, b, a, rfl, _⟩ := h
    rfl
  · obtain ⟨bv, av, wr, b, a, rfl, ⟨bp, rfl, hb⟩, ⟨ap, rfl, ha⟩, hl, k⟩ := h
    refine ⟨_, PSs.nox (pss_cons (ps_if (PW.pt (pw_or (pt_cmpR op_ne (pv 1) (pe_gint rfl T.i_BLANK) (nomark _)) (pw_or1 (pt_cmpR op_gt (pe_callB call_len_seq (by rfl) T.f_len PySem.boot_len (pa_cons (pv 0) pa_nil)) pe_int (nomark _))))) (pss_one (ps_set (i := 0) sc_moved.nd rfl (Or.inl rfl) (pe_op op_catA (pe_tup (pa_cons (pv 1) pa_nil)) (pv 0)))) pss_nil)
      (pss_cons (ps_if (pt_cmpR op_eq (pe_callB call_len_seq (by rfl) T.f_len PySem.boot_len (pa_cons (pv 2) pa_nil)) pe_int (nomark _)) (pss_one (ps_ret (pe_tup (pa_cons (pv 0) (pa_cons (pe_gint rfl T.i_BLANK) (pa_cons (pv 2) pa_nil)))))) pss_nil)
      (pss_one (ps_ret (pe_tup (pa_cons (pv 0) (pa_cons (pe_ix ix_tup (pv 2) pe_int (fun _ _ => rfl)) (pa_cons (pe_slice sl_tupA (pv 2) (po_some pe_int) po_none) pa_nil)))))))), ?_⟩
    refine seq_cut (fun σ' H1 => ∃ x, σ' = [some (.ref x), some (vI wr), some (.ref ap)] ∧ Same H H1 ∧ H1 x = some (.tup (vIs (push wr b)))) ?_ fun mid => ?_
    · rintro σ' H1 ⟨x, rfl, s1, hx⟩
      refine ⟨_, rfl, ap, _, rfl, .inr (SqT.of (s1 _ _ ha)), rfl, _, rfl, iteB (fun h1 => ?_) fun h1 => ?_⟩
      · cases a with
        | cons c a =>
          have := of_decide_eq_true h1
          rw [vIs_len] at this
          injection this with this
          simp at this
          omega
        | nil => exact ⟨_, rfl, _, rfl, (by show 3 ≤ sizeLine; decide), fun p hp => k p (.ref x) (.ref ap) _ (s1.trans (same_new hp)) upd_same ⟨x, rfl, same_new hp _ _ hx⟩ ⟨ap, rfl, same_new hp _ _ (s1 _ _ ha)⟩⟩
      · cases a with
        | nil => exact absurd rfl (of_decide_eq_false h1)
        | cons c a =>
          refine ⟨_, rfl, _, rfl, ap, _, _, _, rfl, rfl, SqT.of (s1 _ _ ha), (atI_vIs (ns := c :: a) (z := 0) (i := 0) rfl (by simp)), _, rfl, _, rfl, ?_⟩
          dsimp only [tNoPart]
          refine slA (K := K) (lo := some 1) (hi := none) (s1 _ _ ha) fun q H2 s2 hq => ?_
          refine ⟨(by show 3 ≤ sizeLine; decide), fun p hp => k p (.ref x) (.ref q) _ ((s1.trans s2).trans (same_new hp)) upd_same ⟨x, rfl, same_new hp _ _ (s2 _ _ hx)⟩ ⟨q, rfl, same_new hp _ _ ?_⟩⟩
          rw [hq]
          exact congrArg (fun z => some (HO.tup z)) (cutV_drop (xs := vIs (c :: a)) (n := 1))
    have put : push wr b = wr :: b → ∀ t, H t = none → ∀ Qk : VK, (∀ p H', Same H H' → H' p = some (.tup (vIs (push wr b))) → Qk (.ref p) H') → rCatA K (.ref t) (.ref bp) (upd H t (.tup [vI wr])) Qk := fun e t ht Qk kk => by
      refine catA (K := K) (xs := [vI wr]) (ys := vIs b) upd_same (same_new ht _ _ hb) (by rw [vIs_len]; show 1 + b.length ≤ _; omega) fun p H' s1 hp => kk p H' ((same_new ht).trans s1) ?_
      rw [hp, e]
      rfl
    refine ⟨_, rfl, rfl, _, rfl, iteB (fun h1 => ?_) fun h1 => ?_⟩
    · refine iteT ⟨_, rfl, (by show 1 ≤ sizeLine; decide), fun t ht => ⟨_, rfl, ?_⟩⟩
      refine put ?_ t ht _ fun p H1 s1 hp => mid _ _ ⟨p, rfl, s1, hp⟩
      unfold push
      rw [if_neg]
      rintro ⟨e1, _⟩
      rw [e1] at h1
      exact absurd h1 (by decide)
    · refine ⟨_, rfl, bp, _, rfl, .inr (SqT.of hb), _, _, rfl, rfl, _, rfl, iteB (fun h2 => ?_) fun h2 => ?_⟩
      · refine ⟨_, rfl, (by show 1 ≤ sizeLine; decide), fun t ht => ⟨_, rfl, ?_⟩⟩
        refine put ?_ t ht _ fun p H1 s1 hp => mid _ _ ⟨p, rfl, s1, hp⟩
        unfold push
        rw [if_neg]
        rintro ⟨_, e1⟩
        rw [e1] at h2
        exact absurd h2 (by decide)
      · refine mid _ _ ⟨bp, rfl, Same.refl H, ?_⟩
        have e1 : wr = 0 := by
          have := of_decide_eq_true (by simpa using h1 : decide (vI wr = V.int 0) = true)
          exact vI_inj this
        have e2 : b = [] := by
          have := of_decide_eq_false h2
          rw [vIs_len] at this
          exact List.eq_nil_of_length_eq_zero (by omega)
        rw [show push wr b = b by rw [e1, e2]; rfl]
        exact hb
end
end TH
/-! rule and step of a machine. -/
namespace TH
open PySem PySem.Spec PyProof.Rows L2 UM
section
variable {P : Program} {w : World} {K : PySem.W.Frag} {mg : Str → Option Value} {base : Heap}
def spRule (K : PySem.W.Frag) : Sp := fun vs H Qk _ => ∃ (v : V) (n k : Nat) (rs : List Rul) (s a : Nat), vs = [v, vI s, vI a] ∧ TurAt K H v n k rs ∧
  (tabOf rs s a = none → ∀ H', Same H H' → Qk .non H') ∧ (∀ x t H', tabOf rs s a = some x → Same H H' → H' t = some (.tup (actV x)) → Qk (.ref t) H')
abbrev sc_truleN : List Str := ["self", "state", "symbol"]
theorem sc_trule : FnScope sc_truleN ["self", "state", "symbol"] (defScope s_Turing_rule) := ⟨rfl, rfl, rfl, by decide +kernel, rfl, by decide +kernel, by decide +kernel⟩
theorem ok_trule {f : Addr} {fd : FuncData} (F : FnP K d_Turing_rule f fd) (T : Tx K mg) : FnOk P w K mg base CX0 1 f fd ["self", "state", "symbol"] (spRule K) := by
  refine F.ok sc_trule (fun vs H Q E h => ?_) (fun cdv A outer s H vs Q E hr h => ?_)
  · obtain ⟨v, n, k, rs, s, a, rfl, _⟩ := h
    rfl
  · obtain ⟨v, n, kk, rs, st, a, rfl, tur, k0, k1⟩ := h
    have hu := hu_of hr
    obtain ⟨p, dx, tb, ru, rs', rfl, hp, ⟨tp, kvs, rfl, htp, hk⟩, hru, _⟩ := id tur
    refine ⟨_, PSs.nox (pss_one (ps_ret (pe_dget1 hu (pe_fld (pv 0) rfl) (pe_tup (pa_cons (pv 1) (pa_cons (pv 2) pa_nil))) ⟨rfl, rfl, rfl, rfl⟩))), ?_⟩
    refine ⟨_, rfl, p, CT K, dx, _, _, rfl, hp, T.c_Turing, T.n_Turing_table, rfl, tp, rfl, .inr ⟨_, .inl htp⟩, ?_⟩
    refine ⟨_, rfl, _, rfl, (by show 2 ≤ sizeLine; decide), fun t ht => ⟨valV kvs (kyK st a), DGet.t (same_new ht _ _ htp) upd_same, ?_⟩⟩
    rcases hk.get st a with ⟨e1, e2⟩ | ⟨x, q, e1, e2, e3⟩
    · rw [e2]
      exact k0 e1 _ (same_new ht)
    · rw [e2]
      exact k1 x q _ e1 (same_new ht) (same_new ht _ _ e3)
def spStep (K : PySem.W.Frag) : Sp := fun vs H Qk _ => ∃ (v cv : V) (n k : Nat) (rs : List Rul) (c : Cfg), vs = [v, cv] ∧ TurAt K H v n k rs ∧ CfgAt H cv c ∧ c.l.length + c.r.length ≤ 90000 ∧
  (stepC (tabOf rs) c = none → ∀ H', Same H H' → Qk .non H') ∧ (∀ c' v' H', stepC (tabOf rs) c = some c' → Same H H' → CfgAt H' v' c' → Qk v' H')
abbrev sc_tstepN : List Str := ["self", "configuration", "state", "left", "here", "right", "written", "move", "following"]
theorem sc_tstep : FnScope sc_tstepN ["self", "configuration"] (defScope s_Turing_step) := ⟨rfl, rfl, rfl, by decide +kernel, rfl, by decide +kernel, by decide +kernel⟩
theorem ok_tstep {f : Addr} {fd : FuncData} (F : FnP K d_Turing_step f fd) (T : Tx K mg) (G_moved : Cal P w K mg base 1 "moved" ["behind", "written", "ahead"] spMoved) : FnOk P w K mg base CX0 2 f fd ["self", "configuration"] (spStep K) := by
  refine F.ok sc_tstep (fun vs H Q E h => ?_) (fun cdv A outer s H vs Q E hr h => ?_)
  · obtain ⟨v, cv, n, k, rs, c, rfl, _⟩ := h
    rfl
  · obtain ⟨v, cv, n, kk, rs, c, rfl, tur, cf, hl, k0, k1⟩ := h
    have hu := hu_of hr
    obtain ⟨p, dx, tb, ru, rs', rfl, hp, ⟨tp, kvs, rfl, htp, hk⟩, hru, _⟩ := id tur
    obtain ⟨cp, lv, rv, rfl, hcp, hlv, hrv⟩ := cf
    refine ⟨_, PSs.nox (pss_cons (ps_asg (pv 1) (pg_tup (by rfl) (pgs_cons (pg_name (i := 2) sc_tstep.nd rfl (Or.inl rfl)) (pgs_cons (pg_name (i := 3) sc_tstep.nd rfl (Or.inl rfl)) (pgs_cons (pg_name (i := 4) sc_tstep.nd rfl (Or.inl rfl)) (pgs_cons (pg_name (i := 5) sc_tstep.nd rfl (Or.inl rfl)) pgs_nil))))))
      (pss_cons (ps_if (pt_cmp (pc_dnotin hu (pe_tup (pa_cons (pv 2) (pa_cons (pv 4) pa_nil))) (pe_fld (pv 0) rfl))) (pss_one (ps_ret pe_non)) pss_nil)
      (pss_cons (ps_asg (pe_dget hu (pe_fld (pv 0) rfl) (pe_tup (pa_cons (pv 2) (pa_cons (pv 4) pa_nil))) (fun _ _ => rfl)) (pg_tup (by rfl) (pgs_cons (pg_name (i := 6) sc_tstep.nd rfl (Or.inl rfl)) (pgs_cons (pg_name (i := 7) sc_tstep.nd rfl (Or.inl rfl)) (pgs_cons (pg_name (i := 8) sc_tstep.nd rfl (Or.inl rfl)) pgs_nil)))))
      (pss_cons (ps_if (pt_cmpR op_eq (pv 7) pe_int (nomark _)) (pss_one (ps_ret (pe_tup (pa_cons (pv 8) (pa_cons (pv 3) (pa_cons (pv 6) (pa_cons (pv 5) pa_nil))))))) pss_nil)
      (pss_cons (ps_if (pt_cmpR op_eq (pv 7) pe_int (nomark _)) (pss_one (ps_ret (pe_op op_catA (pe_tup (pa_cons (pv 8) pa_nil)) (pe_callC G_moved (hr.mono (by decide)) (by rfl) (pa_cons (pv 3) (pa_cons (pv 6) (pa_cons (pv 5) pa_nil))))))) pss_nil)
      (pss_cons (ps_asg (pe_callC G_moved (hr.mono (by decide)) (by rfl) (pa_cons (pv 5) (pa_cons (pv 6) (pa_cons (pv 3) pa_nil)))) (pg_tup (by rfl) (pgs_cons (pg_name (i := 5) sc_tstep.nd rfl (Or.inl rfl)) (pgs_cons (pg_name (i := 4) sc_tstep.nd rfl (Or.inl rfl)) (pgs_cons (pg_name (i := 3) sc_tstep.nd rfl (Or.inl rfl)) pgs_nil)))))
      (pss_one (ps_ret (pe_tup (pa_cons (pv 8) (pa_cons (pv 3) (pa_cons (pv 4) (pa_cons (pv 5) pa_nil))))))))))))), ?_⟩
    refine ⟨_, rfl, cp, _, rfl, SqT.of hcp, rfl, _, _, rfl, _, _, rfl, _, _, rfl, _, _, rfl, rfl, ?_⟩
    refine ⟨_, rfl, _, rfl, (by show 2 ≤ sizeLine; decide), fun t ht => ⟨_, rfl, p, CT K, dx, _, _, rfl, same_new ht _ _ hp, T.c_Turing, T.n_Turing_table, rfl, tp, valV kvs (kyK c.st c.h), rfl, DGet.t (same_new ht _ _ htp) upd_same, _, rfl, ?_⟩⟩
    have s1 := same_new (o := .tup [vI c.st, vI c.h]) ht
    have k0' : stepC (tabOf rs) c = none → ∀ H', Same (upd H t (.tup [vI c.st, vI c.h])) H' → Q .non H' := fun e H' s' => k0 e H' (s1.trans s')
    have k1' : ∀ c' v' H', stepC (tabOf rs) c = some c' → Same (upd H t (.tup [vI c.st, vI c.h])) H' → CfgAt H' v' c' → Q v' H' := fun c' v' H' e s' => k1 c' v' H' e (s1.trans s')
    have hp1 := s1 _ _ hp
    have htp1 := s1 _ _ htp
    have hk1 := hk.same fun b xs => s1 b (.tup xs)
    have hlv1 := hlv.same s1
    have hrv1 := hrv.same s1
    generalize upd H t (.tup [vI c.st, vI c.h]) = H1 at *
    rcases hk1.get c.st c.h with ⟨e1, e2⟩ | ⟨⟨wr, m, q⟩, t2, e1, e2, e3⟩
    · rw [e2]
      exact iteT (k0' (by unfold stepC; rw [e1]) _ (Same.refl _))
    · rw [e2]
      refine iteF ?_
      refine ⟨_, rfl, p, CT K, dx, _, _, rfl, hp1, T.c_Turing, T.n_Turing_table, rfl, _, rfl, _, rfl, (by show 2 ≤ sizeLine; decide), fun t3 ht3 => ⟨tp, .ref t2, rfl, (by rw [← e2]; exact DGet.t (same_new ht3 _ _ htp1) upd_same), ?_⟩⟩
      have s2 := same_new (o := .tup [vI c.st, vI c.h]) ht3
      have k2 : ∀ c' v' H', stepC (tabOf rs) c = some c' → Same (upd H1 t3 (.tup [vI c.st, vI c.h])) H' → CfgAt H' v' c' → Q v' H' := fun c' v' H' e s' => k1' c' v' H' e (s2.trans s')
      have hlv2 := hlv1.same s2
      have hrv2 := hrv1.same s2
      have e32 := s2 _ _ e3
      generalize upd H1 t3 (.tup [vI c.st, vI c.h]) = H2 at *
      refine ⟨t2, _, rfl, SqT.of e32, rfl, _, _, rfl, _, _, rfl, _, _, rfl, rfl, ?_⟩
      refine ⟨_, rfl, rfl, _, rfl, iteB (fun h1 => ?_) fun h1 => ?_⟩
      · have hm : m = 0 := by
          have := of_decide_eq_true h1
          injection this
        refine ⟨_, rfl, _, rfl, _, rfl, _, rfl, (by show 4 ≤ sizeLine; decide), fun t4 ht4 => ?_⟩
        have s4 := same_new (o := .tup [vI q, lv, vI wr, rv]) ht4
        exact k2 ⟨q, c.l, wr, c.r⟩ _ _ (by unfold stepC; rw [e1]; exact if_pos hm) s4 ⟨t4, lv, rv, rfl, upd_same, hlv2.same s4, hrv2.same s4⟩
      · have hm : m ≠ 0 := fun z => of_decide_eq_false h1 (by rw [z])
        refine ⟨_, rfl, rfl, _, rfl, iteB (fun h2 => ?_) fun h2 => ?_⟩
        · have hm1 : m = 1 := by
            have := of_decide_eq_true h2
            injection this
          refine ⟨_, rfl, (by show 1 ≤ sizeLine; decide), fun t4 ht4 => ?_⟩
          have s4 := same_new (o := .tup [vI q]) ht4
          refine ⟨_, rfl, _, rfl, _, rfl, ?_⟩
          refine ⟨lv, rv, wr, c.l, c.r, rfl, hlv2.same s4, hrv2.same s4, hl, fun p5 x y H5 s5 hp5 hx hy => ?_⟩
          refine catA (K := K) (xs := [vI q]) (ys := [x, vI (c.r.headD 0), y]) (s5 _ _ upd_same) hp5 (by show 4 ≤ 100000; decide) fun p6 H6 s6 hp6 => ?_
          exact k2 ⟨q, push wr c.l, c.r.headD 0, c.r.tail⟩ _ _ (by unfold stepC; rw [e1]; exact (if_neg hm).trans (if_pos hm1)) (s4.trans (s5.trans s6)) ⟨p6, x, y, rfl, hp6, hx.same s6, hy.same s6⟩
        · have hm1 : m ≠ 1 := fun z => of_decide_eq_false h2 (by rw [z])
          refine ⟨_, rfl, _, rfl, _, rfl, ?_⟩
          refine ⟨rv, lv, wr, c.r, c.l, rfl, hrv2, hlv2, (by omega), fun p5 x y H5 s5 hp5 hx hy => ?_⟩
          refine ⟨p5, _, rfl, SqT.of hp5, rfl, _, _, rfl, _, _, rfl, _, _, rfl, rfl, ?_⟩
          refine ⟨_, rfl, _, rfl, _, rfl, _, rfl, (by show 4 ≤ sizeLine; decide), fun t6 ht6 => ?_⟩
          have s6 := same_new (o := .tup [vI q, y, vI (c.l.headD 0), x]) ht6
          exact k2 ⟨q, c.l.tail, c.l.headD 0, push wr c.r⟩ _ _ (by unfold stepC; rw [e1]; exact (if_neg hm).trans (if_neg hm1)) (s5.trans s6) ⟨t6, y, x, rfl, upd_same, hy.same s6, hx.same s6⟩
end
end TH
/-! A machine is made. -/
namespace TH
open PySem PySem.Spec PyProof.Rows L2 UM
section
variable {P : Program} {w : World} {K : PySem.W.Frag} {mg : Str → Option Value} {base : Heap}
theorem perm_lift {α β : Type} {f : α → β} {l m : List β} (h : l.Perm m) : ∀ rs : List α, m = rs.map f → ∃ rs' : List α, rs'.Perm rs ∧ l = rs'.map f := by
  induction h with
  | nil => intro rs e; cases rs with
    | nil => exact ⟨[], .nil, rfl⟩
    | cons a rs => cases e
  | cons x h ih => intro rs e; cases rs with
    | nil => cases e
    | cons a rs =>
      obtain ⟨e1, e2⟩ := List.cons.inj e
      obtain ⟨rs', p, q⟩ := ih rs e2
      exact ⟨a :: rs', p.cons a, by rw [List.map_cons, q, e1]⟩
  | swap x y l => intro rs e; cases rs with
    | nil => cases e
    | cons a rs => cases rs with
      | nil => cases e
      | cons b rs =>
        obtain ⟨e1, e2⟩ := List.cons.inj e
        obtain ⟨e3, e4⟩ := List.cons.inj e2
        exact ⟨b :: a :: rs, .swap .., by rw [List.map_cons, List.map_cons, e1, e3, e4]⟩
  | trans h1 h2 ih1 ih2 => intro rs e
                           obtain ⟨r1, p1, q1⟩ := ih2 rs e
                           obtain ⟨r2, p2, q2⟩ := ih1 r1 q1
                           exact ⟨r2, p2.trans p1, q2⟩
theorem ifD {c : Prop} [Decidable c] {A B : Prop} (h : c) (a : A) : if decide c = true then A else B := by rw [if_pos (decide_eq_true h)]; exact a
theorem chain_lt {σ : L2.St} {H : Hp} {Qk : Bool → Hp → Prop} {a b i n : Nat} (ha : σ[a]? = some (some (vI i))) (hb : σ[b]? = some (some (vI n))) (h : i < n) (k : Qk true H) : tTest (tChain (rI0 fun i j => V.bl (decide (i ≤ j))) (rI0 fun i j => V.bl (decide (i < j))) (tC (.int 0)) (tVar a) (tVar b)) σ H Qk := by
  refine ⟨_, ha, _, _, rfl, rfl, _, rfl, ?_⟩
  rw [if_pos (decide_eq_true (by omega))]
  refine ⟨_, hb, _, _, rfl, rfl, _, rfl, ?_⟩
  rw [decide_eq_true (by omega)]
  exact k
theorem chain_leC {σ : L2.St} {H : Hp} {Qk : Bool → Hp → Prop} {a i lo hi : Nat} (ha : σ[a]? = some (some (vI i))) (h1 : lo ≤ i) (h2 : i ≤ hi) (k : Qk true H) : tTest (tChain (rI0 fun i j => V.bl (decide (i ≤ j))) (rI0 fun i j => V.bl (decide (i ≤ j))) (tC (vI lo)) (tVar a) (tC (vI hi))) σ H Qk := by
  refine ⟨_, ha, _, _, rfl, rfl, _, rfl, ?_⟩
  rw [if_pos (decide_eq_true (by omega))]
  refine ⟨_, _, rfl, rfl, _, rfl, ?_⟩
  rw [decide_eq_true (by omega)]
  exact k
theorem in_mv {m : Int} (h : m = 0 ∨ m = 1 ∨ m = -1) : inV (.int m) [.int (-1), .int 0, .int 1] = true := by
  rcases h with rfl | rfl | rfl <;> decide
theorem KvsOf.keys {H : Hp} {kvs : List (List Key × V)} {rs : List Rul} (h : KvsOf H kvs rs) : kvs.map (·.1) = (rs.map fun r => ((r.1 : Int), (r.2.1 : Int))).map pairKey := by
  unfold KvsOf at h
  induction h with
  | nil => rfl
  | cons hr ht ih =>
    rw [List.map_cons, List.map_cons, List.map_cons, ih, hr.1]
    rfl
abbrev f3T (n k : Nat) (tb : V) : List (Str × V) := [("states", vI n), ("symbols", vI k), ("table", tb)]
abbrev okR (n k : Nat) (r : Rul) : Prop := r.1 < n ∧ r.2.1 < k ∧ r.2.2.1 < k ∧ (r.2.2.2.1 = 0 ∨ r.2.2.2.1 = 1 ∨ r.2.2.2.1 = -1) ∧ r.2.2.2.2 < n
def spTInit (K : PySem.W.Frag) : Sp := fun vs H Qk _ => ∃ (p dx : Addr) (n k : Nat) (lv : V) (rs : List Rul), vs = [.ref p, vI n, vI k, lv] ∧ H p = some (.ins (CT K) dx []) ∧ RulesL H lv rs ∧ (1 ≤ n ∧ n ≤ 20000) ∧ (2 ≤ k ∧ k ≤ 400) ∧ (∀ r ∈ rs, okR n k r) ∧ (rs.map key).Nodup ∧ rs.length ≤ 5000 ∧
  ∀ H' : Hp, TurAt K H' (.ref p) n k rs → (∀ b o, H b = some o → b ≠ p → H' b = some o) → Qk .non H'
abbrev sc_tinitN : List Str := ["self", "states", "symbols", "rules", "table", "state", "symbol", "written", "move", "following", "pair"]
theorem sc_tinit : FnScope sc_tinitN ["self", "states", "symbols", "rules"] (defScope s_Turing_init) := ⟨rfl, rfl, rfl, by decide +kernel, rfl, by decide +kernel, by decide +kernel⟩
theorem ok_tinit {f : Addr} {fd : FuncData} (F : FnP K d_Turing_init f fd) (T : Tx K mg) : FnOk P w K mg base CX0 1 f fd ["self", "states", "symbols", "rules"] (spTInit K) := by
  refine F.ok sc_tinit (fun vs H Q E h => ?_) (fun cdv A outer s H vs Q E hr h => ?_)
  · obtain ⟨p, dx, n, k, lv, rs, rfl, _⟩ := h
    rfl
  · obtain ⟨p, dx, n, kk, lv, rs, rfl, hp, ⟨lp, ts, rfl, hlp, hts⟩, hn, hkk, hrs, hnd, hlen, k⟩ := h
    have hu := hu_of hr
    refine ⟨_, PSs.nox (pss_cons (ps_if (PW.pt (pw_or (pt_not (pt_chain op_le op_le pe_int (pv 1) (pe_gint rfl T.i_MOST_STATES_turing))) (pw_or1 (pt_not (pt_chain op_le op_le pe_int (pv 2) (pe_gint rfl T.i_MOST_SYMBOLS_turing)))))) (pss_one ps_never) pss_nil)
      (pss_cons (ps_set (i := 4) sc_tinit.nd rfl (Or.inr rfl) pe_dnewT)
      (pss_cons (ps_for PassesOwn.never (by rfl) (pi_list (pv 3)) (pg_tup (by rfl) (pgs_cons (pg_name (i := 5) sc_tinit.nd rfl (Or.inl rfl)) (pgs_cons (pg_name (i := 6) sc_tinit.nd rfl (Or.inl rfl)) (pgs_cons (pg_name (i := 7) sc_tinit.nd rfl (Or.inl rfl)) (pgs_cons (pg_name (i := 8) sc_tinit.nd rfl (Or.inl rfl)) (pgs_cons (pg_name (i := 9) sc_tinit.nd rfl (Or.inl rfl)) pgs_nil)))))) (pss_cons (ps_if (PW.pt (pw_or (pt_not (pt_chain op_le op_lt pe_int (pv 5) (pv 1))) (pw_or1 (pt_not (pt_chain op_le op_lt pe_int (pv 9) (pv 1)))))) (pss_one ps_never) pss_nil)
      (pss_cons (ps_if (PW.pt (pw_or (pt_not (pt_chain op_le op_lt pe_int (pv 6) (pv 2))) (pw_or (pt_not (pt_chain op_le op_lt pe_int (pv 7) (pv 2))) (pw_or1 (pt_cmpR op_notIn_seq (pv 8) (pe_tup (pa_cons (pe_un un_neg pe_int) (pa_cons pe_int (pa_cons pe_int pa_nil)))) (by rfl)))))) (pss_one ps_never) pss_nil)
      (pss_cons (ps_if (pt_cmp (pc_din hu (pe_tup (pa_cons (pv 5) (pa_cons (pv 6) pa_nil))) (pv 4))) (pss_one ps_never) pss_nil)
      (pss_one (ps_dput hu (pv 4) (pe_tup (pa_cons (pv 5) (pa_cons (pv 6) pa_nil))) (pe_tup (pa_cons (pv 7) (pa_cons (pv 8) (pa_cons (pv 9) pa_nil)))) rfl))))))
      (pss_cons (ps_fld (pv 0) (pv 1) rfl)
      (pss_cons (ps_fld (pv 0) (pv 2) rfl)
      (pss_cons (ps_fld (pv 0) (pv 4) rfl)
      (pss_one (ps_fld (pv 0) (pe_callTy call_tuple_of (by rfl) T.f_tuple (by decide +kernel) (pa_cons (pe_lc (own := [("pair", 10)]) (g := gName 10) (tt := tYes) (by rfl) sc_tinit.nd (pi_list (pe_callB (cr_sortedDT rfl) (by rfl) T.f_sorted (by decide +kernel) (pa_cons (pv 4) pa_nil))) (blkOk_by (own := [("pair", 10)]) (N := sc_tinitN) (sc := defScope s_Turing_init) (by decide +kernel)) (fun _ _ _ _ _ => pg_name (i := 10) sc_tinit.nd rfl (Or.inl rfl)) (fun _ _ _ _ _ => pts_nil) (fun _ _ _ _ _ => (pe_op (show OpR _ (binaryOp .Add) (rCatA K) from op_catA) (pv 10) (pe_dget hu (pv 4) (pv 10) (fun _ _ => rfl))))) pa_nil)) rfl)))))))), ?_⟩
    refine seq_cut (fun σ' H1 => σ' = [some (.ref p), some (vI n), some (vI kk), some (.ref lp), none, none, none, none, none, none, none] ∧ H1 = H) ?_ fun mid => ?_
    · rintro σ' H1 ⟨rfl, rfl⟩
      intro tp htp
      have s1 := same_new (o := .dT []) htp
      have hpt : p ≠ tp := ne_of_none hp htp
      refine ⟨_, rfl, lp, rfl, ⟨_, SqL.of (s1 _ _ hlp)⟩, ?_⟩
      refine for_list (xs := ts.map V.ref) (fun i σ H' => ∃ o5 o6 o7 o8 o9, σ = [some (.ref p), some (vI n), some (vI kk), some (.ref lp), some (.ref tp), o5, o6, o7, o8, o9, none] ∧ Same H1 H' ∧ ∃ kvs, H' tp = some (.dT kvs) ∧ KvsOf H' kvs (rs.take i))
        ⟨none, none, none, none, none, rfl, s1, [], upd_same, .nil⟩ (fun i σ H' _ ⟨_, _, _, _, _, _, s2, _⟩ => SqL.of (s2 _ _ hlp)) ?_ ?_
      · rintro i x σ H2 hx ⟨o5, o6, o7, o8, o9, rfl, s2, kvs, htp2, hkvs⟩
        rw [List.getElem?_map] at hx
        obtain ⟨t, hti, rfl⟩ : ∃ t, ts[i]? = some t ∧ x = .ref t := by
          cases e : ts[i]? with
          | none =>
            rw [e] at hx
            cases hx
          | some t =>
            rw [e] at hx
            exact ⟨t, rfl, (Option.some.inj hx).symm⟩
        have hri : i < rs.length := by
          rw [← hts.length]
          exact (List.getElem?_eq_some_iff.mp hti).1
        obtain ⟨t', ht', hrow⟩ := hts.get (i := i) (r := rs[i]) (List.getElem?_eq_getElem hri)
        have : t' = t := by rw [hti] at ht'; exact (Option.some.inj ht').symm
        subst this
        have hmem : rs[i] ∈ rs := List.getElem_mem hri
        have htk : rs.take (i + 1) = rs.take i ++ [rs[i]] := by rw [List.take_succ, List.getElem?_eq_getElem hri]; rfl
        generalize hr0 : rs[i] = r at hrow hmem htk
        obtain ⟨k1, k2, k3, k4, k5⟩ := hrs r hmem
        refine ⟨t', _, rfl, SqT.of (s2 _ _ hrow), rfl, _, _, rfl, _, _, rfl, _, _, rfl, _, _, rfl, _, _, rfl, rfl, ?_⟩
        -- the three tests
        refine chain_lt rfl rfl k1 (iteF (chain_lt rfl rfl k5 (iteF ?_)))
        refine chain_lt rfl rfl k2 (iteF (chain_lt rfl rfl k3 (iteF ?_)))
        refine ⟨_, rfl, _, rfl, (by show 3 ≤ sizeLine; decide), fun q hq => ⟨q, _, rfl, .inr (SqT.of upd_same), rfl, rfl, _, rfl, ?_⟩⟩
        rw [in_mv k4]
        refine iteF ?_
        have s3 := same_new (o := .tup [.int (-1), .int 0, .int 1]) hq
        have s23 := s2.trans s3
        have htp3 := s3 _ _ htp2
        have hkvs3 := hkvs.same fun b xs => s3 b (.tup xs)
        generalize upd H2 q (.tup [.int (-1), .int 0, .int 1]) = H3 at *
        have hnew : tabOf (rs.take i) r.1 r.2.1 = none := by
          cases e : tabOf (rs.take i) r.1 r.2.1 with
          | none => rfl
          | some z =>
            have hsub : ((rs.take (i + 1)).map key).Nodup := List.Sublist.nodup ((List.take_sublist _ _).map key) hnd
            rw [htk, List.map_append, List.nodup_append] at hsub
            have hm := (tab_mem hsub.1).mp e
            exact absurd rfl (hsub.2.2 (key r) (List.mem_map.mpr ⟨_, hm, rfl⟩) (key r) (List.mem_singleton.mpr rfl))
        have hval : valV kvs (kyK r.1 r.2.1) = none := by
          rcases hkvs3.get r.1 r.2.1 with ⟨_, e2⟩ | ⟨x, t, e1, _⟩
          · exact e2
          · rw [hnew] at e1
            cases e1
        refine ⟨_, rfl, _, rfl, (by show 2 ≤ sizeLine; decide), fun t3 ht3 => ⟨_, rfl, tp, valV kvs (kyK r.1 r.2.1), rfl, DGet.t (same_new ht3 _ _ htp3) upd_same, _, rfl, ?_⟩⟩
        rw [hval]
        refine iteF ?_
        have s4 := same_new (o := .tup [vI r.1, vI r.2.1]) ht3
        have s24 := s23.trans s4
        have htp4 := s4 _ _ htp3
        have hkvs4 := hkvs3.same fun b xs => s4 b (.tup xs)
        generalize upd H3 t3 (.tup [vI r.1, vI r.2.1]) = H4 at *
        refine ⟨_, rfl, _, rfl, _, rfl, (by show 3 ≤ sizeLine; decide), fun t4 ht4 => ⟨_, rfl, _, rfl, _, rfl, (by show 2 ≤ sizeLine; decide), fun t5 ht5 => ?_⟩⟩
        have s5 := same_new (o := .tup (actV r.2.2)) ht4
        have e4 : upd H4 t4 (.tup (actV r.2.2)) t4 = some (.tup (actV r.2.2)) := upd_same
        have s6 := same_new (o := .tup [vI r.1, vI r.2.1]) ht5
        have e5 : upd (upd H4 t4 (.tup (actV r.2.2))) t5 (.tup [vI r.1, vI r.2.1]) t5 = some (.tup [vI r.1, vI r.2.1]) := upd_same
        have e45 := s6 _ _ e4
        have htp6 := s6 _ _ (s5 _ _ htp4)
        have hkvs6 := (hkvs4.same fun b xs => s5 b (.tup xs)).same fun b xs => s6 b (.tup xs)
        have s26 := (s24.trans s5).trans s6
        show ∃ a H4', V.ref tp = .ref a ∧ DPut (upd (upd H4 t4 (.tup (actV r.2.2))) t5 (.tup [vI r.1, vI r.2.1])) a (.ref t5) (.ref t4) H4' ∧ _
        generalize upd (upd H4 t4 (.tup (actV r.2.2))) t5 (.tup [vI r.1, vI r.2.1]) = H6 at *
        have hkl : kvs.length < 50000 := by
          have h1 := hkvs.length
          have h2 := List.length_take_le i rs
          omega
        refine ⟨tp, _, rfl, .inr ⟨kvs, kyK r.1 r.2.1, t5, htp6, rfl, e5, Nat.lt_of_lt_of_le hkl (by decide), rfl⟩, _, _, _, _, _, rfl, ?_, kvs ++ [(kyK r.1 r.2.1, .ref t4)], ?_, ?_⟩
        · exact fun b o hb => by
            rw [upd_ne (ne_of_none hb htp)]
            exact s26 _ _ hb
        · rw [upd_same, putK_new _ hval]
        · rw [htk]
          have tr : ∀ (b : Addr) (xs : List V), H6 b = some (.tup xs) → upd H6 tp (.dT (putK kvs (kyK r.1 r.2.1) (.ref t4))) b = some (.tup xs) := fun b xs hb => by
            rw [upd_ne (ne_of hb htp6 fun z => nomatch z)]
            exact hb
          exact Paired.snoc (hkvs6.same tr) ⟨rfl, t4, rfl, tr _ _ e45⟩
      · rintro σ H2 ⟨o5, o6, o7, o8, o9, rfl, s2, kvs, htp2, hkvs⟩
        rw [show (ts.map V.ref).length = rs.length by rw [List.length_map]; exact hts.length, List.take_length] at hkvs
        have hp2 := s2 _ _ hp
        refine ⟨_, rfl, _, rfl, p, CT K, dx, [], rfl, hp2, T.c_Turing, T.n_Turing_states, (by show 0 < 1000; decide), ?_⟩
        refine ⟨_, rfl, _, rfl, p, CT K, dx, _, rfl, upd_same, T.c_Turing, T.n_Turing_symbols, (by show 1 < 1000; decide), ?_⟩
        refine ⟨_, rfl, _, rfl, p, CT K, dx, _, rfl, upd_same, T.c_Turing, T.n_Turing_table, (by show 2 < 1000; decide), ?_⟩
        rw [upd_upd, upd_upd]
        have f3 : putF "table" (V.ref tp) (putF "symbols" (vI kk) (putF "states" (vI n) [])) = (f3T n kk (.ref tp)) := rfl
        rw [f3]
        have hp3 : upd H2 p (.ins (CT K) dx (f3T n kk (.ref tp))) p = some (.ins (CT K) dx (f3T n kk (.ref tp))) := upd_same
        have n3 : ∀ b, b ≠ p → upd H2 p (.ins (CT K) dx (f3T n kk (.ref tp))) b = H2 b := fun b nb => upd_ne nb
        have tr3 : ∀ (b : Addr) (xs : List V), H2 b = some (.tup xs) → upd H2 p (.ins (CT K) dx (f3T n kk (.ref tp))) b = some (.tup xs) := fun b xs hb => by
          rw [n3 b (ne_of hb hp2 fun z => nomatch z)]
          exact hb
        have hkvs3 := hkvs.same tr3
        have htp3 := (n3 tp hpt.symm).trans htp2
        have nn : ∀ b o, H1 b = some o → b ≠ p → upd H2 p (.ins (CT K) dx (f3T n kk (.ref tp))) b = some o := fun b o hb nb => by
          rw [n3 b nb]
          exact s2 _ _ hb
        generalize upd H2 p (.ins (CT K) dx (f3T n kk (.ref tp))) = H3 at *
        have hks : kvs.map (·.1) = (rs.map fun r => ((r.1 : Int), (r.2.1 : Int))).map pairKey := by
          exact hkvs3.keys
        refine ⟨_, rfl, tp, kvs, _, rfl, htp3, hks, fun bs lq hperm hbs hlq => ?_⟩
        obtain ⟨rs', hperm', hmap⟩ := perm_lift hperm rs rfl
        have hlen' : rs'.length = rs.length := hperm'.length_eq
        have hblen : bs.length = rs'.length := by
          have := congrArg List.length hmap
          rwa [List.length_map, List.length_map] at this
        have s3 := same_new (o := .lst (bs.map fun b => .ref b.1)) hlq
        have elq : upd H3 lq (.lst (bs.map fun b => V.ref b.1)) lq = some (.lst (bs.map fun b => V.ref b.1)) := upd_same
        have hp4 := s3 _ _ hp3
        have htp4 := s3 _ _ htp3
        have hkvs4 := hkvs3.same fun b xs => s3 b (.tup xs)
        have hbs4 : ∀ b ∈ bs, upd H3 lq (.lst (bs.map fun b => V.ref b.1)) b.1 = some (.tup [.int b.2.1, .int b.2.2]) := fun b hb => s3 _ _ (hbs b hb)
        have nn4 : ∀ b o, H1 b = some o → b ≠ p → upd H3 lq (.lst (bs.map fun b => V.ref b.1)) b = some o := fun b o hb nb => s3 _ _ (nn b o hb nb)
        show ∃ a, V.ref lq = .ref a ∧ _
        generalize upd H3 lq (.lst (bs.map fun b => V.ref b.1)) = H4 at *
        refine ⟨lq, rfl, ⟨_, SqL.of elq⟩, fun D hD => ?_⟩
        have sD := same_new (o := .lst []) hD
        refine lc_list (xs := bs.map fun b => V.ref b.1) (fun i H' => Same H4 H' ∧ ∃ us, H' D = some (.lst (us.map V.ref)) ∧ RulesOf H' us (rs'.take i)) ⟨sD, [], upd_same, .nil⟩ (fun i H' _ ⟨s5, _⟩ => SqL.of (s5 _ _ elq)) ?_ ?_
        · rintro i x H5 hx ⟨s5, us, hus, hru⟩
          rw [List.getElem?_map] at hx
          obtain ⟨b, hbi, rfl⟩ : ∃ b, bs[i]? = some b ∧ x = .ref b.1 := by
            cases e : bs[i]? with
            | none =>
              rw [e] at hx
              cases hx
            | some t =>
              rw [e] at hx
              exact ⟨t, rfl, (Option.some.inj hx).symm⟩
          have hbm : b ∈ bs := List.mem_of_getElem? hbi
          have hri : i < rs'.length := by
            rw [← hblen]
            exact (List.getElem?_eq_some_iff.mp hbi).1
          have htk : rs'.take (i + 1) = rs'.take i ++ [rs'[i]] := by rw [List.take_succ, List.getElem?_eq_getElem hri]; rfl
          have hkey : b.2 = ((rs'[i].1 : Int), (rs'[i].2.1 : Int)) := by
            have h1 : (bs.map (·.2))[i]? = some b.2 := by rw [List.getElem?_map, hbi]; rfl
            rw [hmap, List.getElem?_map, List.getElem?_eq_getElem hri] at h1
            exact (Option.some.inj h1).symm
          have hmem : rs'[i] ∈ rs := hperm'.mem_iff.mp (List.getElem_mem hri)
          generalize rs'[i] = r at *
          have hb1 : H5 b.1 = some (.tup ((kyK r.1 r.2.1).map kV)) := by
            have h1 := s5 _ _ (hbs4 b hbm)
            rw [hkey] at h1
            exact h1
          obtain ⟨t, ht1, ht2⟩ : ∃ t, valV kvs (kyK r.1 r.2.1) = some (.ref t) ∧ H4 t = some (.tup (actV r.2.2)) := by
            have h1 := (tab_mem hnd (s := r.1) (a := r.2.1) (v := r.2.2)).mpr hmem
            rcases hkvs4.get r.1 r.2.1 with ⟨e1, _⟩ | ⟨x, t, e1, e2, e3⟩
            · rw [e1] at h1
              cases h1
            · rw [e1] at h1
              cases h1
              exact ⟨t, e2, e3⟩
          refine ⟨rfl, ?_⟩
          dsimp only [tYes]
          rw [if_pos rfl]
          refine ⟨_, rfl, _, rfl, _, rfl, tp, .ref t, rfl, (by rw [← ht1]; exact DGet.t (s5 _ _ htp4) hb1), ?_⟩
          refine catA (K := K) (xs := [vI r.1, vI r.2.1]) (ys := actV r.2.2) hb1 (s5 _ _ ht2) (by show 5 ≤ 100000; decide) fun q H6 s6 hq => ?_
          have hus6 := s6 _ _ hus
          refine ⟨us.map V.ref, hus6, ?_, fun c o hc => ?_, us ++ [q], ?_, ?_⟩
          · rw [List.length_map]
            have h1 := hru.length
            have h2 := List.length_take_le i rs'
            exact Nat.lt_of_le_of_lt (by omega : us.length ≤ 5000) (by decide)
          · rw [upd_ne (ne_of_none hc hD)]
            exact s6 _ _ (s5 _ _ hc)
          · rw [upd_same, List.map_append]
            rfl
          · rw [htk]
            have tr : ∀ (b : Addr) (xs : List V), H6 b = some (.tup xs) → upd H6 D (.lst (us.map V.ref ++ [.ref q])) b = some (.tup xs) := fun b xs hb => by
              rw [upd_ne (ne_of hb hus6 fun z => nomatch z)]
              exact hb
            exact Paired.snoc ((hru.same fun b xs => s6 b (.tup xs)).same tr) (tr _ _ hq)
        · rintro H5 ⟨s5, us, hus, hru⟩
          rw [show (bs.map fun b => V.ref b.1).length = rs'.length by rw [List.length_map]; exact hblen, List.take_length] at hru
          refine ⟨D, _, rfl, .inl ⟨SqL.of hus, fun l hl => ?_⟩⟩
          have sl := same_new (o := .tup (us.map V.ref)) hl
          have el : upd H5 l (.tup (us.map V.ref)) l = some (.tup (us.map V.ref)) := upd_same
          refine ⟨_, rfl, p, CT K, dx, _, rfl, sl _ _ (s5 _ _ hp4), T.c_Turing, T.n_Turing_rules, (by show 3 < 1000; decide), ?_⟩
          have hru' := hru.same fun b xs => sl b (.tup xs)
          have hkvs' := (hkvs4.same fun b xs => s5 b (.tup xs)).same fun b xs => sl b (.tup xs)
          have htp' := sl _ _ (s5 _ _ htp4)
          have hp' := sl _ _ (s5 _ _ hp4)
          have nn' : ∀ b o, H1 b = some o → b ≠ p → upd H5 l (.tup (us.map V.ref)) b = some o := fun b o hb nb => sl _ _ (s5 _ _ (nn4 b o hb nb))
          generalize upd H5 l (.tup (us.map V.ref)) = H7 at *
          have tr : ∀ (o : HO) (b : Addr) (xs : List V), H7 b = some (.tup xs) → upd H7 p o b = some (.tup xs) := fun o b xs hb => by
            rw [upd_ne (ne_of hb hp' fun z => nomatch z)]
            exact hb
          refine k _ ⟨p, dx, .ref tp, .ref l, rs', rfl, upd_same, ⟨tp, kvs, rfl, ?_, hkvs'.same (tr _)⟩, ⟨l, us, rfl, tr _ _ _ el, hru'.same (tr _)⟩, hperm', hnd, hlen⟩ fun b o hb nb => ?_
          · rw [upd_ne hpt.symm]
            exact htp'
          · rw [upd_ne nb]
            exact nn' b o hb nb
    · exact chain_leC (lo := 1) (hi := 20000) rfl hn.1 hn.2 (iteF (chain_leC (lo := 2) (hi := 400) rfl hkk.1 hkk.2 (iteF (mid _ _ ⟨rfl, rfl⟩))))
end
end TH
/-! universal() -/
namespace TH
open PySem PySem.Spec PyProof.Rows L2 UM
section
variable {P : Program} {w : World} {K : PySem.W.Frag} {mg : Str → Option Value} {base : Heap}
theorem sz_reading (b : BS) : sz (readingB b) ≤ sz b + 300 := by
  unfold readingB
  have h1 := sz_state b .home
  have h2 := sz_fold (sz_read1 (stateN b .home)) [0, 1] (stateB b .home)
  have h3 := sz_seek ([0, 1].foldl (read1 (stateN b .home)) (stateB b .home)) (.entry 1) 12 1 .second
  have h4 := sz_fold sz_read2 [0, 1] (seekB ([0, 1].foldl (read1 (stateN b .home)) (stateB b .home)) (.entry 1) 12 1 .second)
  have e2 : ([0, 1] : List Nat).length = 2 := rfl
  rw [e2] at h2 h4
  omega
theorem sz_writing (b : BS) : sz (writingB b) ≤ sz b + 720 := by
  unfold writingB
  have h := sz_fold sz_write0 [0, 1] b
  have e2 : ([0, 1] : List Nat).length = 2 := rfl
  rw [e2] at h
  omega
theorem uni_rules_len : uniB.rules.length = 2102 := by
  rw [uni_nums.rules, List.length_reverse]
  exact chkL
theorem uni_rules_ok : ∀ r ∈ uniB.rules, okR 92 28 r := fun r hr => by
  rw [uni_nums.rules] at hr
  obtain ⟨a, b, c, d, e⟩ := rule_ok (List.mem_reverse.mp hr)
  exact ⟨a, b, c, d, e⟩
def spUniv (K : PySem.W.Frag) : Sp := fun vs H Qk _ => vs = [] ∧ ∀ v H', Same H H' → TurAt K H' v 92 28 uniB.rules → Qk v H'
abbrev sc_univN : List Str := ["builder", "sign"]
theorem sc_univ : FnScope sc_univN [] (defScope s_universal) := ⟨rfl, rfl, rfl, by decide +kernel, rfl, by decide +kernel, by decide +kernel⟩
theorem ok_univ {f : Addr} {fd : FuncData} (F : FnP K d_universal f fd) (T : Tx K mg) (G_Builder : Mak P w K mg base 1 (CB K) "Builder" ["self"] (spBInit K)) (G_Turing : Mak P w K mg base 1 (CT K) "Turing" ["self", "states", "symbols", "rules"] (spTInit K))
    (G_write_reading : Cal P w K mg base 5 "write_reading" ["builder"] (spWR K readingB)) (G_write_writing : Cal P w K mg base 5 "write_writing" ["builder"] (spWR K writingB)) (G_write_choosing : Cal P w K mg base 5 "write_choosing" ["builder", "sign"] (spWC K)) (G_write_moving : Cal P w K mg base 5 "write_moving" ["builder"] (spWR K movingB)) :
    FnOk P w K mg base CX0 6 f fd [] (spUniv K) := by
  refine F.ok sc_univ (fun vs H Q E h => ?_) (fun cdv A outer s H vs Q E hr h => ?_)
  · obtain ⟨rfl, _⟩ := h
    rfl
  · obtain ⟨rfl, k⟩ := h
    have hu := hu_of hr
    refine ⟨_, PSs.nox (pss_cons (ps_set (i := 0) sc_univ.nd rfl (Or.inl rfl) (pe_makeC0 G_Builder (hr.mono (by decide)) (by rfl)))
      (pss_cons (ps_expr (pe_callC G_write_reading (hr.mono (by decide)) (by rfl) (pa_cons (pv 0) pa_nil)))
      (pss_cons (ps_expr (pe_callC G_write_writing (hr.mono (by decide)) (by rfl) (pa_cons (pv 0) pa_nil)))
      (pss_cons (ps_for PassesOwn.never (by rfl) (pi_kd (pe_gref rfl T.g_MOVES)) (pg_name (i := 1) sc_univ.nd rfl (Or.inl rfl)) (pss_one (ps_expr (pe_callC G_write_choosing (hr.mono (by decide)) (by rfl) (pa_cons (pv 0) (pa_cons (pv 1) pa_nil))))))
      (pss_cons (ps_expr (pe_callC G_write_moving (hr.mono (by decide)) (by rfl) (pa_cons (pv 0) pa_nil)))
      (pss_one (ps_ret (pe_makeC G_Turing (hr.mono (by decide)) (by rfl) (pa_cons (pe_callB call_len_dT (by rfl) T.f_len PySem.boot_len (pa_cons (pe_fld (pv 0) rfl) pa_nil)) (pa_cons (pe_op op_mul pe_int (pe_gint rfl T.i_SIGNS)) (pa_cons (pe_fld (pv 0) rfl) pa_nil))))))))))), ?_⟩
    intro p dx hp hdx npd
    have s0 : Same H (upd (upd H dx (.own p)) p (.ins (CB K) dx [])) := fun b o hb => by
      rw [upd_ne (ne_of_none hb hp), upd_ne (ne_of_none hb hdx)]
      exact hb
    refine ⟨p, dx, rfl, upd_same, fun H1 d l hd hl B1 n1 => ⟨rfl, ?_⟩⟩
    have s1 : Same H H1 := fun b o hb => n1 b o (s0 b o hb) (ne_of_none hb hp)
    have hd0 : H d = none := by
      cases e : H d with
      | none => rfl
      | some o =>
        rw [s0 _ _ e] at hd
        cases hd
    have hl0 : H l = none := by
      cases e : H l with
      | none => rfl
      | some o =>
        rw [s0 _ _ e] at hl
        cases hl
    have z1 : sz startB ≤ 10 := by decide
    refine ⟨_, rfl, .ref p, d, l, startB, rfl, B1, by omega, fun H2 B2 f2 => ?_⟩
    have z2 := sz_reading startB
    refine ⟨_, rfl, .ref p, d, l, readingB startB, rfl, B2, by omega, fun H3 B3 f3 => ?_⟩
    have z3 := sz_writing (readingB startB)
    refine ⟨_, [9, 10, 11], rfl, T.mv, for_mv (fun i σ H' => ∃ x, σ = [some (.ref p), x] ∧ BldAt K H' (.ref p) d l ((mvs.take i).foldl choosingB (writingB (readingB startB))) ∧ But d l H1 H' ∧ sz ((mvs.take i).foldl choosingB (writingB (readingB startB))) ≤ 1100 + 1200 * i)
      ⟨none, rfl, B3, f2.trans f3, by show sz (writingB (readingB startB)) ≤ _; omega⟩ ?_ ?_⟩
    · rintro i sg σ H4 hi ⟨x, rfl, B4, f4, z4⟩
      have hi3 : i < 3 := (List.getElem?_eq_some_iff.mp hi).1
      rw [fold_take hi]
      generalize (mvs.take i).foldl choosingB (writingB (readingB startB)) = b4 at B4 z4 ⊢
      exact ⟨_, rfl, _, rfl, .ref p, d, l, b4, sg, rfl, B4, by omega, fun H5 B5 f5 z5 => ⟨_, rfl, B5, f4.trans f5, by omega⟩⟩
    · rintro σ H4 ⟨x, rfl, B4, f4, z4⟩
      rw [show mvs.take 3 = mvs from rfl] at B4 z4
      refine ⟨_, rfl, .ref p, d, l, _, rfl, B4, by omega, fun H5 B5 f5 => ?_⟩
      rw [show movingB (mvs.foldl choosingB (writingB (readingB startB))) = uniB by unfold uniB; rfl] at B5
      obtain ⟨p5, dx5, ts, e5, h1, h2, h3, h4⟩ := B5.ex
      cases e5
      have s5 : Same H H5 := fun b o hb => f5 _ _ (f4 _ _ (s1 _ _ hb) (ne_of_none hb hd0) (ne_of_none hb hl0)) (ne_of_none hb hd0) (ne_of_none hb hl0)
      refine ⟨_, rfl, p, CB K, dx5, _, _, rfl, h1, T.c_Builder, T.n_Builder_numbers, rfl, ?_⟩
      refine ⟨d, _, rfl, h2, ?_⟩
      refine ⟨_, _, rfl, rfl, .inl ⟨by decide, by decide⟩, ?_⟩
      refine ⟨_, rfl, p, CB K, dx5, _, _, rfl, h1, T.c_Builder, T.n_Builder_rules, rfl, ?_⟩
      intro x6 dx6 hx6 hdx6 nx6
      have s6 : Same H5 (upd (upd H5 dx6 (.own x6)) x6 (.ins (CT K) dx6 [])) := fun b o hb => by
        rw [upd_ne (ne_of_none hb hx6), upd_ne (ne_of_none hb hdx6)]
        exact hb
      have e92 : ((numsV uniB.nums).length : Int) = ((92 : Nat) : Int) := by rw [numsV_len, uni_len]
      refine ⟨x6, dx6, 92, 28, .ref l, uniB.rules, (by rw [e92]; rfl), upd_same, ⟨l, ts, rfl, s6 _ _ h3, h4.same fun b xs => s6 b (.tup xs)⟩, by decide, by decide, uni_rules_ok, rules_nodup, by rw [uni_rules_len]; decide, fun H7 t7 n7 => ⟨rfl, ?_⟩⟩
      exact k _ H7 (fun b o hb => n7 _ _ (s6 _ _ (s5 _ _ hb)) (ne_of_none (s5 _ _ hb) hx6)) t7
end
end TH
/-! The translation: its making, entry, signs. -/
namespace TH
open PySem PySem.Spec PyProof.Rows L2 UM
theorem catL {H : Hp} {a b : Addr} {xs ys : List V} {Qk : VK} (ha : H a = some (.lst xs)) (hb : H b = some (.lst ys)) (hz : xs.length + ys.length ≤ 200000) (k : ∀ p H', Same H H' → H p = none → H' p = some (.lst (xs ++ ys)) → Qk (.ref p) H') : rCat (.ref a) (.ref b) H Qk :=
  ⟨a, b, xs, ys, rfl, rfl, ha, hb, Nat.le_trans hz (by decide), fun p hp => k p _ (same_new hp) hp upd_same⟩
theorem flat_rep (n : Nat) (x : V) : (List.replicate n [x]).flatten = List.replicate n x := by
  induction n with
  | zero => rfl
  | succ n ih => rw [List.replicate_succ, List.flatten_cons, ih, List.replicate_succ]; rfl
theorem repL {H : Hp} {a : Addr} {x : V} {n : Nat} {z : Int} {Qk : VK} (ha : H a = some (.lst [x])) (e : z = (n : Int)) (hz : n ≤ 200000) (k : ∀ p H', Same H H' → H p = none → H' p = some (.lst (List.replicate n x)) → Qk (.ref p) H') : rRep (.ref a) (.int z) H Qk := by
  have en : z.toNat = n := by omega
  refine ⟨a, z, [x], rfl, rfl, ha, by omega, by omega, ?_, fun p hp => k p _ (same_new hp) hp ?_⟩
  · rw [en]
    show 1 * n ≤ _
    rw [Nat.one_mul]
    exact Nat.le_trans hz (by decide)
  · rw [upd_same, en, flat_rep]
theorem vIs_rep (n x : Nat) : List.replicate n (vI x) = vIs (List.replicate n x) := by
  unfold vIs
  rw [List.map_replicate]
section
variable {P : Program} {w : World} {K : PySem.W.Frag} {mg : Str → Option Value} {base : Heap}
/-- the source's rules as a machine -/
abbrev srcM (rs : List Rul) : Nat → Nat → Ent := entM (tabOf rs)
theorem ent_len {rs : List Rul} {n : Nat} (hk : ∀ r ∈ rs, okR n 2 r) (hnd : (rs.map key).Nodup) (hn : n ≤ 40) (s a : Nat) : (entL (srcM rs s a)).length ≤ 50 := by
  unfold srcM entM
  cases e : tabOf rs s a with
  | none => decide
  | some x =>
    obtain ⟨w, m, q⟩ := x
    have := hk _ ((tab_mem hnd).mp e)
    show ((7 + w) :: (10 + m).toNat :: (List.replicate q 5 ++ [12]) : List Nat).length ≤ 50
    rw [List.length_cons, List.length_cons, List.length_append, List.length_replicate]
    have h5 : q < n := this.2.2.2.2
    simp
    omega
def spEntry (K : PySem.W.Frag) : Sp := fun vs H Qk _ => ∃ (p dx : Addr) (fs : List (Str × V)) (sv : V) (n : Nat) (rs : List Rul) (s a : Nat), vs = [.ref p, vI s, vI a] ∧ H p = some (.ins (CU K) dx fs) ∧ fs.lookup ("source" : Str) = some sv ∧ TurAt K H sv n 2 rs ∧ (∀ r ∈ rs, okR n 2 r) ∧ n ≤ 40 ∧
  ∀ q H', Same H H' → H' q = some (.lst (vIs (entL (srcM rs s a)))) → Qk (.ref q) H'
abbrev sc_uentryN : List Str := ["self", "state", "symbol", "rule", "written", "move", "following"]
theorem sc_uentry : FnScope sc_uentryN ["self", "state", "symbol"] (defScope s_ToUniversal_entry) := ⟨rfl, rfl, rfl, by decide +kernel, rfl, by decide +kernel, by decide +kernel⟩
theorem ok_uentry {f : Addr} {fd : FuncData} (F : FnP K d_ToUniversal_entry f fd) (T : Tx K mg) (G_Turing_rule : Met P w K mg base 1 (CT K) "rule" ["self", "state", "symbol"] (spRule K)) : FnOk P w K mg base CX0 2 f fd ["self", "state", "symbol"] (spEntry K) := by
  refine F.ok sc_uentry (fun vs H Q E h => ?_) (fun cdv A outer s H vs Q E hr h => ?_)
  · obtain ⟨p, dx, fs, sv, n, rs, s, a, rfl, _⟩ := h
    rfl
  · obtain ⟨p, dx, fs, sv, n, rs, st, a, rfl, hp, hsv, tur, hrs, hn, k⟩ := h
    obtain ⟨sp, sdx, tb, ru, rs', rfl, hsp, htb, hru, hpm, hnd, hlen⟩ := id tur
    refine ⟨_, PSs.nox (pss_cons (ps_set (i := 3) sc_uentry.nd rfl (Or.inl rfl) (pe_methC (pe_fld (pv 0) rfl) T.c_Turing G_Turing_rule (hr.mono (by decide)) (pa_cons (pv 1) (pa_cons (pv 2) pa_nil))))
      (pss_cons (ps_if (pt_cmpR op_isN (pv 3) pe_non (nomark _)) (pss_one (ps_ret (pe_lst (pa_cons (pe_gint rfl T.i_MISSING) (pa_cons (pe_gint rfl T.i_COMMA) pa_nil))))) pss_nil)
      (pss_cons (ps_asg (pv 3) (pg_tup (by rfl) (pgs_cons (pg_name (i := 4) sc_uentry.nd rfl (Or.inl rfl)) (pgs_cons (pg_name (i := 5) sc_uentry.nd rfl (Or.inl rfl)) (pgs_cons (pg_name (i := 6) sc_uentry.nd rfl (Or.inl rfl)) pgs_nil)))))
      (pss_one (ps_ret (pe_op op_cat (pe_op op_cat (pe_lst (pa_cons (pe_op op_add (pe_gint rfl T.i_ZERO) (pv 4)) (pa_cons (pe_op op_add (pe_gint rfl T.i_STAY) (pv 5)) pa_nil))) (pe_op op_rep (pe_lst (pa_cons (pe_gint rfl T.i_UNIT) pa_nil)) (pv 6))) (pe_lst (pa_cons (pe_gint rfl T.i_COMMA) pa_nil)))))))), ?_⟩
    refine ⟨_, rfl, p, CU K, dx, _, _, rfl, hp, T.c_ToUniversal, T.n_ToUniversal_source, hsv, sp, sdx, _, rfl, hsp, rfl, _, rfl, _, rfl, ?_⟩
    refine ⟨_, n, 2, rs, st, a, rfl, tur, fun e H1 s1 => ?_, fun x t H1 e s1 ht => ?_⟩
    · refine ⟨_, rfl, rfl, _, rfl, ?_⟩
      refine iteT ⟨(by show 2 ≤ sizeLine; decide), fun q hq => k q _ (s1.trans (same_new hq)) ?_⟩
      rw [upd_same]
      unfold srcM entM
      rw [e]
      rfl
    · obtain ⟨wr, m, q⟩ := x
      obtain ⟨k1, k2, k3, k4, k5⟩ := hrs _ ((tab_mem hnd).mp e)
      have k4 : m = 0 ∨ m = 1 ∨ m = -1 := k4
      have k5 : q < n := k5
      refine ⟨_, rfl, rfl, _, rfl, iteF ?_⟩
      refine ⟨_, rfl, t, _, rfl, SqT.of ht, rfl, _, _, rfl, _, _, rfl, _, _, rfl, rfl, ?_⟩
      refine ⟨_, rfl, _, _, rfl, rfl, _, rfl, _, _, rfl, rfl, (by show 2 ≤ sizeLine; decide), fun l1 hl1 => ?_⟩
      have s2 := s1.trans (same_new (o := .lst [.int (7 + (wr : Int)), .int (10 + m)]) hl1)
      have e1 : upd H1 l1 (.lst [.int (7 + (wr : Int)), .int (10 + m)]) l1 = some (.lst (vIs [7 + wr, (10 + m).toNat])) := by
        rw [upd_same, vI_eq (a := 7 + (wr : Int)) (b := 7 + wr) (by omega), vI_eq (a := 10 + m) (b := (10 + m).toNat) (by omega)]
        rfl
      generalize upd H1 l1 (.lst [.int (7 + (wr : Int)), .int (10 + m)]) = H2 at *
      refine ⟨(by show 1 ≤ sizeLine; decide), fun l2 hl2 => ⟨_, rfl, ?_⟩⟩
      have s3 := same_new (o := .lst [.int 5]) hl2
      refine repL (n := q) upd_same rfl (by omega) fun l3 H3 s4 _ e3 => ?_
      refine catL (s4 _ _ (s3 _ _ e1)) e3 (by rw [vIs_len, List.length_replicate]; show 2 + q ≤ _; omega) fun l4 H4 s5 _ e4 => ?_
      refine ⟨(by show 1 ≤ sizeLine; decide), fun l5 hl5 => ?_⟩
      have s6 := same_new (o := .lst [.int 12]) hl5
      refine catL (s6 _ _ e4) upd_same (by rw [List.length_append, vIs_len, List.length_replicate]; show 2 + q + 1 ≤ _; omega) fun l6 H6 s7 _ e6 => ?_
      refine k l6 H6 ((s2.trans (s3.trans s4)).trans (s5.trans (s6.trans s7))) ?_
      rw [e6]
      unfold srcM entM
      rw [e]
      show some (HO.lst (vIs [7 + wr, (10 + m).toNat] ++ List.replicate q (vI 5) ++ [vI 12])) = some (HO.lst (vIs ([7 + wr, (10 + m).toNat] ++ List.replicate q 5 ++ [12])))
      rw [vIs_rep]
      unfold vIs
      rw [List.map_append, List.map_append]
      rfl
end
end TH
/-! The translation is made. -/
namespace TH
open PySem PySem.Spec PyProof.Rows L2 UM
theorem vIs_app (a b : List Nat) : vIs (a ++ b) = vIs a ++ vIs b := List.map_append
def RowsOf (H : Hp) (rq : Addr) (as : List Addr) (rows : List (List Nat)) : Prop := Paired (fun a r => a ≠ rq ∧ H a = some (.lst (vIs r))) as rows
theorem RowsOf.mono {H H' : Hp} {rq : Addr} {as : List Addr} {rows : List (List Nat)} (h : RowsOf H rq as rows) (s : ∀ b o, H b = some o → b ≠ rq → H' b = some o) : RowsOf H' rq as rows := Paired.mapP h fun _ _ ⟨n, q⟩ => ⟨n, s _ _ q n⟩
theorem RowsOf.length {H : Hp} {rq : Addr} {as : List Addr} {rows : List (List Nat)} (h : RowsOf H rq as rows) : as.length = rows.length := Paired.length h
theorem RowsOf.get {H : Hp} {rq : Addr} {as : List Addr} {rows : List (List Nat)} (h : RowsOf H rq as rows) {i : Nat} {r : List Nat} (hi : rows[i]? = some r) : ∃ t, as[i]? = some t ∧ H t = some (.lst (vIs r)) := by
  unfold RowsOf at h
  induction h generalizing i with
  | nil => simp at hi
  | @cons t r' ts rs hr ht ih =>
    cases i with
    | zero =>
      have e : r' = r := by simpa using hi
      exact ⟨t, rfl, e ▸ hr.2⟩
    | succ i =>
      obtain ⟨t', h1, h2⟩ := ih (i := i) (by simpa using hi)
      exact ⟨t', by simpa using h1, h2⟩
theorem TurAt.mono {K : PySem.W.Frag} {H H' : Hp} {v : V} {n k : Nat} {rs : List Rul} {rq : Addr} {xs : List V} (h : TurAt K H v n k rs) (hq : H rq = some (.lst xs)) (s : ∀ b o, H b = some o → b ≠ rq → H' b = some o) : TurAt K H' v n k rs := by
  obtain ⟨p, dx, tb, ru, rs', e, q, ⟨tp, kvs, e2, q2, a⟩, ⟨up, ts, e3, q3, b⟩, c⟩ := h
  have tr : ∀ b xs, H b = some (.tup xs) → H' b = some (.tup xs) := fun b xs hb => s _ _ hb (ne_of hb hq fun z => nomatch z)
  exact ⟨p, dx, tb, ru, rs', e, s _ _ q (ne_of q hq fun z => nomatch z), ⟨tp, kvs, e2, s _ _ q2 (ne_of q2 hq fun z => nomatch z), a.same tr⟩, ⟨up, ts, e3, tr _ _ q3, b.same tr⟩, c⟩
theorem TurAt.but {K : PySem.W.Frag} {H H' : Hp} {v : V} {n k : Nat} {rs : List Rul} {p dx : Addr} {fs : List (Str × V)} (h : TurAt K H v n k rs) (hq : H p = some (.ins (CU K) dx fs)) (hne : fs.length < 4) (s : ∀ b o, H b = some o → b ≠ p → H' b = some o) : TurAt K H' v n k rs := by
  obtain ⟨q, dx', tb, ru, rs', e, q1, ⟨tp, kvs, e2, q2, a⟩, ⟨up, ts, e3, q3, b⟩, c⟩ := h
  have tr : ∀ b xs, H b = some (.tup xs) → H' b = some (.tup xs) := fun b xs hb => s _ _ hb (ne_of hb hq fun z => nomatch z)
  exact ⟨q, dx', tb, ru, rs', e, s _ _ q1 (ne_of q1 hq fun z => by
    injection z with _ _ z
    rw [← z] at hne
    exact absurd hne (by show ¬ 4 < 4; decide)), ⟨tp, kvs, e2, s _ _ q2 (ne_of q2 hq fun z => nomatch z), a.same tr⟩, ⟨up, ts, e3, tr _ _ q3, b.same tr⟩, c⟩
abbrev fU (sv tv rv : V) : List (Str × V) := [("source", sv), ("target", tv), ("rows", rv)]
abbrev rowsS (n : Nat) (rs : List Rul) : List (List Nat) := (List.range n).map (rowL (srcM rs))
def ToUAt (K : PySem.W.Frag) (H : Hp) (v : V) (n : Nat) (rs : List Rul) : Prop := ∃ p dx sv tv rq as, v = .ref p ∧ H p = some (.ins (CU K) dx (fU sv tv (.ref rq))) ∧ TurAt K H sv n 2 rs ∧ TurAt K H tv 92 28 uniB.rules ∧ H rq = some (.lst (as.map V.ref)) ∧ RowsOf H rq as (rowsS n rs) ∧ (∀ r ∈ rs, okR n 2 r) ∧ 1 ≤ n ∧ n ≤ 40
theorem ToUAt.same {K : PySem.W.Frag} {H H' : Hp} {v : V} {n : Nat} {rs : List Rul} (h : ToUAt K H v n rs) (s : Same H H') : ToUAt K H' v n rs :=
  let ⟨p, dx, sv, tv, rq, as, e, q, a, b, c, d, f⟩ := h; ⟨p, dx, sv, tv, rq, as, e, s _ _ q, a.same s, b.same s, s _ _ c, d.mono fun b o hb _ => s b o hb, f⟩
section
variable {P : Program} {w : World} {K : PySem.W.Frag} {mg : Str → Option Value} {base : Heap}
def spUInit (K : PySem.W.Frag) : Sp := fun vs H Qk _ => ∃ (p dx : Addr) (mv : V) (n : Nat) (rs : List Rul), vs = [.ref p, mv] ∧ H p = some (.ins (CU K) dx []) ∧ TurAt K H mv n 2 rs ∧ (∀ r ∈ rs, okR n 2 r) ∧ 1 ≤ n ∧ n ≤ 40 ∧
  ∀ H' : Hp, ToUAt K H' (.ref p) n rs → (∀ b o, H b = some o → b ≠ p → H' b = some o) → Qk .non H'
abbrev sc_uinitN : List Str := ["self", "machine", "state"]
theorem sc_uinit : FnScope sc_uinitN ["self", "machine"] (defScope s_ToUniversal_init) := ⟨rfl, rfl, rfl, by decide +kernel, rfl, by decide +kernel, by decide +kernel⟩
theorem ok_uinit {f : Addr} {fd : FuncData} (F : FnP K d_ToUniversal_init f fd) (T : Tx K mg) (G_universal : Cal P w K mg base 6 "universal" [] (spUniv K)) (G_ToUniversal_entry : Met P w K mg base 2 (CU K) "entry" ["self", "state", "symbol"] (spEntry K)) : FnOk P w K mg base CX0 7 f fd ["self", "machine"] (spUInit K) := by
  refine F.ok sc_uinit (fun vs H Q E h => ?_) (fun cdv A outer s H vs Q E hr h => ?_)
  · obtain ⟨p, dx, mv, n, rs, rfl, _⟩ := h
    rfl
  · obtain ⟨p, dx, mv, n, rs, rfl, hp, tur, hrs, hn1, hn, k⟩ := h
    obtain ⟨sp, sdx, tb, ru, rs', rfl, hsp, htb, hru, hpm, hnd, hlen⟩ := id tur
    have hu := hu_of hr
    refine ⟨_, PSs.nox (pss_cons (ps_if (PW.pt (pw_or (pt_not (pt_val (pe_callB call_isi (by rfl) T.f_isinstance (by decide +kernel) (pa_cons (pv 1) (pa_cons (pe_gref rfl T.g_Turing) pa_nil))))) (pw_or (pt_cmpR op_ne (pe_fld (pv 1) rfl) pe_int (nomark _)) (pw_or1 (pt_cmpR op_gt (pe_fld (pv 1) rfl) (pe_gint rfl T.i_MOST_STATES_universal) (nomark _)))))) (pss_one ps_never) pss_nil)
      (pss_cons (ps_fld (pv 0) (pv 1) rfl)
      (pss_cons (ps_fld (pv 0) (pe_callC0 G_universal (hr.mono (by decide)) (by rfl)) rfl)
      (pss_cons (ps_fld (pv 0) (pe_lst pa_nil) rfl)
      (pss_one (ps_for PassesOwn.never (by rfl) (pi_range1 (by rfl) T.f_range (pa_cons (pe_fld (pv 1) rfl) pa_nil)) (pg_name (i := 2) sc_uinit.nd rfl (Or.inl rfl)) (pss_one (ps_expr (pe_bm PySem.F.plainAttrs_list PySem.F.slot_list_append PySem.F.type_list_append mt_append (pe_fld (pv 0) rfl) (pa_cons (pe_op op_cat (pe_methC (pv 0) T.c_ToUniversal G_ToUniversal_entry (hr.mono (by decide)) (pa_cons (pv 2) (pa_cons pe_int pa_nil))) (pe_methC (pv 0) T.c_ToUniversal G_ToUniversal_entry (hr.mono (by decide)) (pa_cons (pv 2) (pa_cons pe_int pa_nil)))) pa_nil)))))))))), ?_⟩
    have hps : p ≠ sp := ne_of hp hsp fun z => by
      injection z with _ _ z
      cases z
    refine ⟨_, rfl, V.ref sp, V.ref (CT K), .ref (CT K), .ref (CT K), true, rfl, .own _, T.ty hsp, T.isT, true, rfl, iteF ?_⟩
    refine ⟨_, rfl, sp, CT K, sdx, _, _, rfl, hsp, T.c_Turing, T.n_Turing_symbols, fT_symbols, rfl, _, rfl, iteF ?_⟩
    refine ⟨_, rfl, sp, CT K, sdx, _, _, rfl, hsp, T.c_Turing, T.n_Turing_states, fT_states, _, _, rfl, rfl, _, rfl, ?_⟩
    rw [decide_eq_false (by omega)]
    refine iteF ?_
    refine ⟨_, rfl, _, rfl, p, CU K, dx, [], rfl, hp, T.c_ToUniversal, T.n_ToUniversal_source, (by show 0 < 1000; decide), ?_⟩
    have o1 : ∀ b o, H b = some o → b ≠ p → upd H p (.ins (CU K) dx (putF "source" (.ref sp) [])) b = some o := fun b o hb nb => by
      rw [upd_ne nb]
      exact hb
    have hp1 : upd H p (.ins (CU K) dx (putF "source" (.ref sp) [])) p = some (.ins (CU K) dx [("source", .ref sp)]) := upd_same
    have tur1 : TurAt K (upd H p (.ins (CU K) dx (putF "source" (.ref sp) []))) (.ref sp) n 2 rs := tur.but hp (by decide) o1
    generalize upd H p (.ins (CU K) dx (putF "source" (.ref sp) [])) = H1 at *
    refine ⟨rfl, fun tv H2 s2 tu2 => ?_⟩
    refine ⟨_, rfl, p, CU K, dx, _, rfl, s2 _ _ hp1, T.c_ToUniversal, T.n_ToUniversal_target, (by show 1 < 1000; decide), ?_⟩
    have o2 : ∀ b o, H b = some o → b ≠ p → H2 b = some o := fun b o hb nb => s2 _ _ (o1 b o hb nb)
    have tur2 := tur1.same s2
    have hp2 := s2 _ _ hp1
    have o3 : ∀ b o, H2 b = some o → b ≠ p → upd H2 p (.ins (CU K) dx (putF "target" tv [("source", .ref sp)])) b = some o := fun b o hb nb => by
      rw [upd_ne nb]
      exact hb
    have hp3 : upd H2 p (.ins (CU K) dx (putF "target" tv [("source", .ref sp)])) p = some (.ins (CU K) dx [("source", .ref sp), ("target", tv)]) := upd_same
    have tur3 := tur2.but hp2 (by show 1 < 4; decide) o3
    have tu3 := tu2.but hp2 (by show 1 < 4; decide) o3
    have o13 : ∀ b o, H b = some o → b ≠ p → upd H2 p (.ins (CU K) dx (putF "target" tv [("source", .ref sp)])) b = some o := fun b o hb nb => o3 _ _ (o2 b o hb nb) nb
    generalize upd H2 p (.ins (CU K) dx (putF "target" tv [("source", .ref sp)])) = H3 at *
    refine ⟨by decide, fun rq hrq => ?_⟩
    have s4 := same_new (o := .lst []) hrq
    have npq : rq ≠ p := fun z => by
      rw [z, hp3] at hrq
      cases hrq
    refine ⟨_, rfl, p, CU K, dx, _, rfl, s4 _ _ hp3, T.c_ToUniversal, T.n_ToUniversal_rows, (by show 2 < 1000; decide), ?_⟩
    have tur4 := tur3.same s4
    have tu4 := tu3.same s4
    have hp4 := s4 _ _ hp3
    have e4 : upd H3 rq (.lst []) rq = some (.lst []) := upd_same
    have o4 : ∀ b o, H b = some o → b ≠ p → upd H3 rq (.lst []) b = some o := fun b o hb nb => s4 _ _ (o13 b o hb nb)
    have hq0 : H rq = none := by
      cases e : H rq with
      | none => rfl
      | some o =>
        rw [o13 _ _ e npq] at hrq
        cases hrq
    generalize upd H3 rq (.lst []) = H4 at *
    have o5 : ∀ b o, H4 b = some o → b ≠ p → upd H4 p (.ins (CU K) dx (putF "rows" (.ref rq) [("source", .ref sp), ("target", tv)])) b = some o := fun b o hb nb => by
      rw [upd_ne nb]
      exact hb
    have hp5 : upd H4 p (.ins (CU K) dx (putF "rows" (.ref rq) [("source", .ref sp), ("target", tv)])) p = some (.ins (CU K) dx (fU (.ref sp) tv (.ref rq))) := upd_same
    have tur5 := tur4.but hp4 (by show 2 < 4; decide) o5
    have tu5 := tu4.but hp4 (by show 2 < 4; decide) o5
    have e5 := o5 _ _ e4 npq
    have o15 : ∀ b o, H b = some o → b ≠ p → upd H4 p (.ins (CU K) dx (putF "rows" (.ref rq) [("source", .ref sp), ("target", tv)])) b = some o := fun b o hb nb => o5 _ _ (o4 b o hb nb) nb
    generalize upd H4 p (.ins (CU K) dx (putF "rows" (.ref rq) [("source", .ref sp), ("target", tv)])) = H5 at *
    obtain ⟨sp', sdx', tb', ru', rs'', ez, hsp5, _⟩ := id tur5
    cases ez
    refine ⟨_, rfl, sp, CT K, sdx', _, _, rfl, hsp5, T.c_Turing, T.n_Turing_states, fT_states, n, rfl, by omega, by omega, ?_⟩
    refine for_rangeN (n := n) (fun i σ H' => ∃ o, σ = [some (.ref p), some (.ref sp), o] ∧ (∀ b o, H5 b = some o → b ≠ rq → H' b = some o) ∧ ∃ as, H' rq = some (.lst (as.map V.ref)) ∧ RowsOf H' rq as ((rowsS n rs).take i))
      ⟨none, rfl, fun _ _ hb _ => hb, [], e5, .nil⟩ ?_ ?_
    · rintro i σ H6 hi ⟨o, rfl, o6, as, h6, hro⟩
      have hp6 := o6 _ _ hp5 npq.symm
      have tur6 := tur5.mono e5 o6
      refine ⟨_, rfl, p, CU K, dx, _, _, rfl, hp6, T.c_ToUniversal, T.n_ToUniversal_rows, rfl, .inl ⟨rfl, _, SqL.of h6⟩, ?_⟩
      refine ⟨_, rfl, p, dx, _, rfl, hp6, rfl, _, rfl, p, dx, _, .ref sp, n, rs, i, 0, rfl, hp6, rfl, tur6, hrs, hn, fun q1 H7 s7 e7 => ?_⟩
      refine ⟨_, rfl, p, dx, _, rfl, s7 _ _ hp6, rfl, _, rfl, p, dx, _, .ref sp, n, rs, i, 1, rfl, s7 _ _ hp6, rfl, tur6.same s7, hrs, hn, fun q2 H8 s8 e8 => ?_⟩
      have l0 := ent_len hrs hnd hn i 0
      have l1 := ent_len hrs hnd hn i 1
      refine catL (s8 _ _ e7) e8 (by rw [vIs_len, vIs_len]; omega) fun q3 H9 s9 hq3 e9 => ?_
      have s69 := s7.trans (s8.trans s9)
      have h9 := s69 _ _ h6
      have nq3 : q3 ≠ rq := fun z => by
        rw [z, s8 _ _ (s7 _ _ h6)] at hq3
        cases hq3
      have hri : i < (rowsS n rs).length := by rw [List.length_map, List.length_range]; exact hi
      refine ⟨rq, _, _, rfl, rfl, h9, ?_, _, rfl, fun b o hb nb => ?_, as ++ [q3], ?_, ?_⟩
      · rw [List.length_map]
        have h1 := hro.length
        have h2 := List.length_take_le i (rowsS n rs)
        have h3 : (rowsS n rs).length = n := by rw [List.length_map, List.length_range]
        exact Nat.lt_of_le_of_lt (by omega : as.length ≤ 40) (by decide)
      · rw [upd_ne nb]
        exact s69 _ _ (o6 _ _ hb nb)
      · rw [upd_same, List.map_append]
        rfl
      · rw [List.take_succ, List.getElem?_eq_getElem hri]
        have mo : ∀ b o, H9 b = some o → b ≠ rq → upd H9 rq (.lst (as.map V.ref ++ [.ref q3])) b = some o := fun b o hb nb => by
          rw [upd_ne nb]
          exact hb
        refine Paired.snoc ((hro.mono fun b o hb _ => s69 b o hb).mono mo) ⟨nq3, ?_⟩
        rw [mo _ _ e9 nq3, List.getElem_map, List.getElem_range]
        unfold rowL
        rw [vIs_app]
    · rintro σ H6 ⟨o, rfl, o6, as, h6, hro⟩
      rw [List.take_of_length_le (by rw [List.length_map, List.length_range]; exact Nat.le_refl _)] at hro
      exact k H6 ⟨p, dx, .ref sp, tv, rq, as, rfl, o6 _ _ hp5 npq.symm, tur5.mono e5 o6, tu5.mono e5 o6, h6, hro, hrs, hn1, hn⟩ fun b o hb nb => o6 _ _ (o15 b o hb nb) (ne_of_none hb hq0)
end
end TH
/-! The signs of the code. -/
namespace TH
open PySem PySem.Spec PyProof.Rows L2 UM
section
variable {P : Program} {w : World} {K : PySem.W.Frag} {mg : Str → Option Value} {base : Heap}
theorem pre_len {rs : List Rul} {n : Nat} (hk : ∀ r ∈ rs, okR n 2 r) (hnd : (rs.map key).Nodup) (hn : n ≤ 40) (mk : Nat → Nat) : ∀ i, (pre (srcM rs) mk i).length ≤ 1 + 101 * i
  | 0 => by show 1 ≤ 1 + 101 * 0; decide
  | i + 1 => by
    have ih := pre_len hk hnd hn mk i
    have l0 := ent_len hk hnd hn i 0
    have l1 := ent_len hk hnd hn i 1
    show (pre (srcM rs) mk i ++ mk i :: (entL (srcM rs i 0) ++ entL (srcM rs i 1))).length ≤ _
    rw [List.length_append, List.length_cons, List.length_append]
    omega
def spSigns (K : PySem.W.Frag) : Sp := fun vs H Qk _ => ∃ (v : V) (n : Nat) (rs : List Rul) (s : Nat), vs = [v, vI s] ∧ ToUAt K H v n rs ∧ ∀ q H', Same H H' → H' q = some (.lst (vIs (codeL n (srcM rs) s))) → Qk (.ref q) H'
abbrev sc_usignsN : List Str := ["self", "state", "found", "row"]
theorem sc_usigns : FnScope sc_usignsN ["self", "state"] (defScope s_ToUniversal_signs) := ⟨rfl, rfl, rfl, by decide +kernel, rfl, by decide +kernel, by decide +kernel⟩
theorem ok_usigns {f : Addr} {fd : FuncData} (F : FnP K d_ToUniversal_signs f fd) (T : Tx K mg) : FnOk P w K mg base CX0 1 f fd ["self", "state"] (spSigns K) := by
  refine F.ok sc_usigns (fun vs H Q E h => ?_) (fun cdv A outer s H vs Q E hr h => ?_)
  · obtain ⟨v, n, rs, s, rfl, _⟩ := h
    rfl
  · obtain ⟨v, n, rs, st, rfl, hU, k⟩ := h
    obtain ⟨p, dx, sv, tv, rq, as, rfl, hp, tur, tu, hq, hro, hrs, hn1, hn⟩ := id hU
    obtain ⟨_, _, _, _, _, _, _, _, _, _, hnd, _⟩ := id tur
    refine ⟨_, PSs.nox (pss_cons (ps_set (i := 2) sc_usigns.nd rfl (Or.inl rfl) (pe_lst (pa_cons (pe_gint rfl T.i_OPEN) pa_nil)))
      (pss_cons (ps_for PassesOwn.never (by rfl) (pi_range1 (by rfl) T.f_range (pa_cons (pe_callB call_len_seq (by rfl) T.f_len PySem.boot_len (pa_cons (pe_fld (pv 0) rfl) pa_nil)) pa_nil)) (pg_name (i := 3) sc_usigns.nd rfl (Or.inl rfl)) (pss_cons (ps_expr (pe_bm PySem.F.plainAttrs_list PySem.F.slot_list_append PySem.F.type_list_append mt_append (pv 2) (pa_cons (pe_ifExp (pt_cmpR op_eq (pv 3) (pv 1) (nomark _)) (pe_gint rfl T.i_ACTIVE) (pe_gint rfl T.i_ROW)) pa_nil)))
      (pss_one (ps_expr (pe_bm PySem.F.plainAttrs_list PySem.F.slot_list_extend PySem.F.type_list_extend mt_extend (pv 2) (pa_cons (pe_ix ix_list (pe_fld (pv 0) rfl) (pv 3) (fun _ _ => rfl)) pa_nil))))))
      (pss_one (ps_ret (pe_op op_cat (pv 2) (pe_lst (pa_cons (pe_gint rfl T.i_CLOSE) pa_nil))))))), ?_⟩
    refine ⟨by decide, fun fq hfq => ?_⟩
    have s1 := same_new (o := .lst [.int 1]) hfq
    have e1 : upd H fq (.lst [.int 1]) fq = some (.lst [.int 1]) := upd_same
    generalize upd H fq (.lst [.int 1]) = H1 at *
    have hlen : as.length = n := by rw [hro.length, List.length_map, List.length_range]
    refine ⟨_, rfl, p, CU K, dx, _, _, rfl, s1 _ _ hp, T.c_ToUniversal, T.n_ToUniversal_rows, rfl, rq, _, rfl, .inl (SqL.of (s1 _ _ hq)), n, (by rw [List.length_map, hlen]), by omega, by omega, ?_⟩
    refine for_rangeN (n := n) (fun i σ H' => ∃ o, σ = [some (.ref p), some (vI st), some (.ref fq), o] ∧ Same H H' ∧ H' fq = some (.lst (vIs (pre (srcM rs) (fun r => if r = st then 4 else 3) i)))) ⟨none, rfl, s1, e1⟩ ?_ ?_
    · rintro i σ H2 hi ⟨o, rfl, s2, e2⟩
      have hl := pre_len hrs hnd hn (fun r => if r = st then 4 else 3) i
      have hri : i < (rowsS n rs).length := by rw [List.length_map, List.length_range]; exact hi
      obtain ⟨a, ha, har⟩ := hro.get (i := i) (r := rowL (srcM rs) i) (by rw [List.getElem?_eq_getElem hri, List.getElem_map, List.getElem_range])
      refine ⟨_, rfl, .inl ⟨rfl, _, SqL.of e2⟩, ?_⟩
      -- the mark
      have mark : ∀ m : Nat, (if i = st then 4 else 3) = m → rAppend (.ref fq) [vI m] H2 fun _ H3 => Same H H3 ∧ H3 fq = some (.lst (vIs (pre (srcM rs) (fun r => if r = st then 4 else 3) i ++ [if i = st then 4 else 3]))) := fun m hm => by
        refine ⟨fq, _, _, rfl, rfl, e2, by rw [vIs_len]; exact Nat.lt_of_le_of_lt (by omega : _ ≤ 5000) (by decide), fun b o hb => ?_, ?_⟩
        · rw [upd_ne (ne_of_none hb hfq)]
          exact s2 _ _ hb
        · rw [upd_same, vIs_snoc, hm]
      have rest : ∀ H3, Same H H3 → H3 fq = some (.lst (vIs (pre (srcM rs) (fun r => if r = st then 4 else 3) i ++ [if i = st then 4 else 3]))) → ∃ zs, H3 a = some (.lst zs) ∧ (vIs (pre (srcM rs) (fun r => if r = st then 4 else 3) i ++ [if i = st then 4 else 3])).length + zs.length ≤ sizeLine ∧
          (Same H (upd H3 fq (.lst (vIs (pre (srcM rs) (fun r => if r = st then 4 else 3) i ++ [if i = st then 4 else 3]) ++ zs))) ∧ upd H3 fq (.lst (vIs (pre (srcM rs) (fun r => if r = st then 4 else 3) i ++ [if i = st then 4 else 3]) ++ zs)) fq = some (.lst (vIs (pre (srcM rs) (fun r => if r = st then 4 else 3) (i + 1))))) := fun H3 s3 e3 => by
        have l0 := ent_len hrs hnd hn i 0
        have l1 := ent_len hrs hnd hn i 1
        refine ⟨_, s3 _ _ har, ?_, fun b o hb => ?_, ?_⟩
        · rw [vIs_len, vIs_len, List.length_append]
          unfold rowL
          rw [List.length_append]
          exact Nat.le_trans (by simp only [List.length_cons, List.length_nil]; omega : _ ≤ 10000) (by decide)
        · rw [upd_ne (ne_of_none hb hfq)]
          exact s3 _ _ hb
        · rw [upd_same, ← vIs_app]
          show _ = some (HO.lst (vIs (pre (srcM rs) (fun r => if r = st then 4 else 3) i ++ (if i = st then 4 else 3) :: rowL (srcM rs) i)))
          rw [List.append_assoc]
          rfl
      have fin : ∀ H3, Same H H3 → H3 fq = some (.lst (vIs (pre (srcM rs) (fun r => if r = st then 4 else 3) i ++ [if i = st then 4 else 3]))) → ∀ D : Ends, (∀ H4, Same H H4 → H4 fq = some (.lst (vIs (pre (srcM rs) (fun r => if r = st then 4 else 3) (i + 1)))) → D.nx [some (.ref p), some (vI st), some (.ref fq), some (vI i)] H4) →
          tDrop (tBM K "list" rExtend (tVar 2) (tCons (tOp (rIxL K) (tFld K (tVar 0) "rows") (tVar 3)) tNil)) D [some (.ref p), some (vI st), some (.ref fq), some (vI i)] H3 := fun H3 s3 e3 D hD => by
        obtain ⟨zs, q1, q2, q3, q4⟩ := rest H3 s3 e3
        refine ⟨_, rfl, .inl ⟨rfl, _, SqL.of e3⟩, ?_⟩
        refine ⟨_, rfl, p, CU K, dx, _, _, rfl, s3 _ _ hp, T.c_ToUniversal, T.n_ToUniversal_rows, rfl, _, rfl, rq, _, _, _, rfl, rfl, SqL.of (s3 _ _ hq), atI_nat (v := .ref a) (by rw [List.getElem?_map, ha]; rfl), ?_⟩
        exact ⟨fq, a, _, zs, rfl, rfl, e3, q1, q2, hD _ q3 q4⟩
      refine ⟨_, rfl, _, rfl, rfl, _, rfl, iteB (fun h1 => ?_) fun h1 => ?_⟩
      · have e := vI_inj (of_decide_eq_true h1)
        obtain ⟨l, xs, y, g1, g2, g3, g4, g5, g6⟩ := mark 4 (if_pos e)
        cases g1
        cases g2
        exact ⟨fq, xs, _, rfl, rfl, g3, g4, fin _ g5 g6 _ fun H4 s4 e4 => ⟨_, rfl, s4, e4⟩⟩
      · have e : i ≠ st := fun z => of_decide_eq_false h1 (by rw [z])
        obtain ⟨l, xs, y, g1, g2, g3, g4, g5, g6⟩ := mark 3 (if_neg e)
        cases g1
        cases g2
        exact ⟨fq, xs, _, rfl, rfl, g3, g4, fin _ g5 g6 _ fun H4 s4 e4 => ⟨_, rfl, s4, e4⟩⟩
    · rintro σ H2 ⟨o, rfl, s2, e2⟩
      refine ⟨_, rfl, by decide, fun l hl => ?_⟩
      have hl2 := pre_len hrs hnd hn (fun r => if r = st then 4 else 3) n
      refine catL (same_new hl _ _ e2) upd_same (by rw [vIs_len]; show _ + 1 ≤ _; omega) fun q H3 s3 _ e3 => k q H3 (s2.trans ((same_new hl).trans s3)) ?_
      rw [e3]
      unfold codeL
      rw [vIs_app]
      rfl
end
end TH
/-! The picture. -/
namespace TH
open PySem PySem.Spec PyProof.Rows L2 UM
section
variable {P : Program} {w : World} {K : PySem.W.Frag} {mg : Str → Option Value} {base : Heap}
theorem gN {i : Nat} {x : V} {σ σ' : L2.St} {H : Hp} {Z : L2.St → Hp → Prop} (e : σ.set i (some x) = σ') (h : Z σ' H) : gName i x σ H Z := by
  show Z (σ.set i (some x)) H
  rw [e]
  exact h
theorem lc_zip {a b : Addr} {xs ys : List V} {g : TG} {tt : TT} {te : TE} {vs : List Nat} {σ : L2.St} {H1 : Hp} {D : Addr} {Qd : Hp → Prop} (n : Nat) (hx : xs.length = n) (hy : ys.length = n) (Pv : Nat → Hp → Prop) (h0 : Pv 0 (upd H1 D (.lst []))) (hl : ∀ i H, Pv i H → H a = some (.lst xs) ∧ H b = some (.lst ys))
    (hs : ∀ i x y H T, xs[i]? = some x → ys[i]? = some y → Pv i H → H T = none → g (.ref T) (wipe σ vs) (upd H T (.tup [x, y])) fun σ2 H2 => wipe σ2 vs = wipe σ vs ∧ tt σ2 H2 fun b H3 =>
      if b = true then te σ2 H3 fun y H4 => ∃ acc, H4 D = some (.lst acc) ∧ acc.length < sizeLine ∧ Pv (i + 1) (upd H4 D (.lst (acc ++ [y]))) else Pv (i + 1) H3) (hd : ∀ H, Pv n H → Qd H) :
    ∃ W : Nat → Nat → Hp → Prop, (∃ m, W 0 m (upd H1 D (.lst []))) ∧ ∀ i m H, W i m H →
      ((Itz K a b).stop i H ∧ Qd H) ∨ ((Itz K a b).go i H ∧ ∃ Nx : Hp → Prop, (∀ H', Nx H' → ∃ m', m' < m ∧ W (i + 1) m' H') ∧ ∀ x H', (Itz K a b).yld i H x H' → g x (wipe σ vs) H' fun σ2 H2 => wipe σ2 vs = wipe σ vs ∧ tt σ2 H2 fun b H3 =>
        if b = true then te σ2 H3 fun y H4 => ∃ acc, H4 D = some (.lst acc) ∧ acc.length < sizeLine ∧ Nx (upd H4 D (.lst (acc ++ [y]))) else Nx H3) := by
  refine ⟨fun i m H => m = n - i ∧ i ≤ n ∧ Pv i H, ⟨n, by simp, Nat.zero_le _, h0⟩, ?_⟩
  rintro i m H ⟨rfl, hi, p⟩
  obtain ⟨ha, hb⟩ := hl i H p
  by_cases h : i < n
  · have ex : xs[i]? = some xs[i] := List.getElem?_eq_getElem (by omega)
    have ey : ys[i]? = some ys[i] := List.getElem?_eq_getElem (by omega)
    refine .inr ⟨⟨xs, ys, _, _, SqL.of ha, SqL.of hb, ex, ey⟩, fun H' => Pv (i + 1) H', fun H' q => ⟨n - (i + 1), by omega, rfl, by omega, q⟩, ?_⟩
    rintro v H' ⟨T, x, y, rfl, hT, rfl, qx, qy⟩
    exact hs i x y H T (qx _ (SqL.of ha)) (qy _ (SqL.of hb)) p hT
  · have e : i = n := by omega
    subst e
    exact .inl ⟨⟨xs, ys, SqL.of ha, SqL.of hb, .inl (by omega)⟩, hd H p⟩
def spPic (K : PySem.W.Frag) : Sp := fun vs H Qk _ => ∃ (v cv : V) (n : Nat) (rs : List Rul) (c : Cfg), vs = [v, cv] ∧ ToUAt K H v n rs ∧ CfgAt H cv c ∧ c.r.length ≤ 50000 ∧ ∀ v' H', Same H H' → CfgAt H' v' (pic n (srcM rs) c) → Qk v' H'
abbrev sc_upicN : List Str := ["self", "configuration", "signs", "digits", "size", "cells", "state", "left", "here", "right", "sign", "digit"]
theorem sc_upic : FnScope sc_upicN ["self", "configuration"] (defScope s_ToUniversal_picture) := ⟨rfl, rfl, rfl, by decide +kernel, rfl, by decide +kernel, by decide +kernel⟩
theorem ok_upic {f : Addr} {fd : FuncData} (F : FnP K d_ToUniversal_picture f fd) (T : Tx K mg) (G_stripped : Cal P w K mg base 1 "stripped" ["symbols"] spStrip) (G_ToUniversal_signs : Met P w K mg base 1 (CU K) "signs" ["self", "state"] (spSigns K)) : FnOk P w K mg base CX0 2 f fd ["self", "configuration"] (spPic K) := by
  refine F.ok sc_upic (fun vs H Q E h => ?_) (fun cdv A outer s H vs Q E hr h => ?_)
  · obtain ⟨v, cv, n, rs, c, rfl, _⟩ := h
    rfl
  · obtain ⟨v, cv, n, rs, c, rfl, hU, hC, hcl, k⟩ := h
    obtain ⟨p, dx, sv, tv, rq, as, rfl, hp, tur, tu, hq, hro, hrs, hn1, hn⟩ := id hU
    obtain ⟨_, _, _, _, _, _, _, _, _, _, hnd, _⟩ := id tur
    obtain ⟨cp, lv, rv, rfl, hcp, hlv, ⟨rp, rfl, hrp⟩⟩ := hC
    refine ⟨_, PSs.nox (pss_cons (ps_asg (pv 1) (pg_tup (by rfl) (pgs_cons (pg_name (i := 6) sc_upic.nd rfl (Or.inl rfl)) (pgs_cons (pg_name (i := 7) sc_upic.nd rfl (Or.inl rfl)) (pgs_cons (pg_name (i := 8) sc_upic.nd rfl (Or.inl rfl)) (pgs_cons (pg_name (i := 9) sc_upic.nd rfl (Or.inl rfl)) pgs_nil))))))
      (pss_cons (ps_set (i := 2) sc_upic.nd rfl (Or.inl rfl) (pe_methC (pv 0) T.c_ToUniversal G_ToUniversal_signs (hr.mono (by decide)) (pa_cons (pv 6) pa_nil)))
      (pss_cons (ps_set (i := 3) sc_upic.nd rfl (Or.inl rfl) (pe_callTy call_list_of (by rfl) T.f_list (by decide +kernel) (pa_cons (pe_op op_catA (pe_tup (pa_cons (pv 8) pa_nil)) (pv 9)) pa_nil)))
      (pss_cons (ps_set (i := 4) sc_upic.nd rfl (Or.inl rfl) (pe_callB (call_max2 rfl) (by rfl) T.f_max (by decide +kernel) (pa_cons (pe_callB call_len_seq (by rfl) T.f_len PySem.boot_len (pa_cons (pv 2) pa_nil)) (pa_cons (pe_callB call_len_seq (by rfl) T.f_len PySem.boot_len (pa_cons (pv 3) pa_nil)) pa_nil))))
      (pss_cons (ps_set (i := 2) sc_upic.nd rfl (Or.inl rfl) (pe_op op_cat (pv 2) (pe_op op_rep (pe_lst (pa_cons (pe_gint rfl T.i_NOTHING) pa_nil)) (pe_op op_sub (pv 4) (pe_callB call_len_seq (by rfl) T.f_len PySem.boot_len (pa_cons (pv 2) pa_nil))))))
      (pss_cons (ps_set (i := 3) sc_upic.nd rfl (Or.inl rfl) (pe_op op_cat (pv 3) (pe_op op_rep (pe_lst (pa_cons pe_int pa_nil)) (pe_op op_sub (pv 4) (pe_callB call_len_seq (by rfl) T.f_len PySem.boot_len (pa_cons (pv 3) pa_nil))))))
      (pss_cons (ps_setLc (i := 5) (own := [("sign", 10), ("digit", 11)]) (g := (gTup K 2 (gCons (gName 10) (gCons (gName 11) gNil)))) (tt := tYes) (by rfl) sc_upic.nd rfl rfl (sw_true rfl rfl rfl (by decide +kernel)) (pi_zip (by rfl) T.f_zip (pa_cons (pv 2) (pa_cons (pv 3) pa_nil))) (blkOk_by (own := [("sign", 10), ("digit", 11)]) (N := sc_upicN) (sc := defScope s_ToUniversal_picture) (by decide +kernel)) (fun _ _ _ _ _ => (show PG _ _ (gTup K 2 (gCons (gName 10) (gCons (gName 11) gNil))) from (pg_tup (by rfl) (pgs_cons (pg_name (i := 10) sc_upic.nd rfl (Or.inl rfl)) (pgs_cons (pg_name (i := 11) sc_upic.nd rfl (Or.inl rfl)) pgs_nil))))) (fun _ _ _ _ _ => pts_nil) (fun _ _ _ _ _ => (pe_op op_add (pe_op op_mul pe_int (pv 10)) (pv 11))))
      (pss_one (ps_ret (pe_tup (pa_cons pe_int (pa_cons (pv 7) (pa_cons (pe_ix ix_list (pv 5) pe_int (fun _ _ => rfl)) (pa_cons (pe_callC G_stripped (hr.mono (by decide)) (by rfl) (pa_cons (pe_slice sl_list (pv 5) (po_some pe_int) po_none) pa_nil)) pa_nil)))))))))))))), ?_⟩
    refine ⟨_, rfl, cp, _, rfl, SqT.of hcp, rfl, _, _, rfl, _, _, rfl, _, _, rfl, _, _, rfl, rfl, ?_⟩
    -- signs
    refine ⟨_, rfl, p, dx, _, rfl, hp, rfl, _, rfl, .ref p, n, rs, c.st, rfl, hU, fun sq H1 s1 e1 => ?_⟩
    have hlen : (codeL n (srcM rs) c.st).length ≤ 5000 := by
      have := pre_len hrs hnd hn (fun r => if r = c.st then 4 else 3) n
      unfold codeL
      rw [List.length_append]
      simp only [List.length_cons, List.length_nil]
      omega
    -- digits
    refine ⟨_, rfl, (by show 1 ≤ sizeLine; decide), fun t1 ht1 => ⟨_, rfl, ?_⟩⟩
    have s2 := same_new (o := .tup [vI c.h]) ht1
    refine catA (K := K) (xs := [vI c.h]) (ys := vIs c.r) upd_same (s2 _ _ (s1 _ _ hrp)) (by rw [vIs_len]; show 1 + _ ≤ _; omega) fun t2 H3 s3 e3 => ?_
    refine ⟨t2, _, rfl, .inr (SqT.of e3), fun dq hdq => ?_⟩
    have s4 := same_new (o := .lst ([vI c.h] ++ vIs c.r)) hdq
    have e4 : upd H3 dq (.lst ([vI c.h] ++ vIs c.r)) dq = some (.lst (vIs (c.h :: c.r))) := upd_same
    have e14 := s4 _ _ (s3 _ _ (s2 _ _ e1))
    have s14 := s1.trans (s2.trans (s3.trans s4))
    generalize upd H3 dq (.lst ([vI c.h] ++ vIs c.r)) = H4 at *
    -- size
    refine ⟨_, rfl, sq, _, rfl, .inl (SqL.of e14), _, rfl, dq, _, rfl, .inl (SqL.of e4), _, _, rfl, ?_⟩
    have hsz : (if ((vIs (c.h :: c.r)).length : Int) > ((vIs (codeL n (srcM rs) c.st)).length : Int) then ((vIs (c.h :: c.r)).length : Int) else ((vIs (codeL n (srcM rs) c.st)).length : Int)) = ((max (codeL n (srcM rs) c.st).length (c.h :: c.r).length : Nat) : Int) := by
      rw [vIs_len, vIs_len]
      split <;> omega
    rw [hsz]
    generalize hSG : codeL n (srcM rs) c.st = SG at *
    have hdl : (c.h :: c.r).length ≤ 50001 := by rw [List.length_cons]; omega
    generalize hDG : c.h :: c.r = DG at *
    generalize hM : max SG.length DG.length = M at *
    have hm1 : SG.length ≤ M := by omega
    have hm2 : DG.length ≤ M := by omega
    have hm3 : M ≤ 55001 := by omega
    refine ⟨_, rfl, by decide, fun l1 hl1 => ⟨_, rfl, _, rfl, sq, _, rfl, .inl (SqL.of (same_new hl1 _ _ e14)), _, _, rfl, rfl, ?_⟩⟩
    have s5 := same_new (o := .lst [.int 0]) hl1
    refine repL (n := M - SG.length) upd_same (by rw [vIs_len]; omega) (by omega) fun l2 H5 s6 _ e6 => ?_
    have s56 := s5.trans s6
    refine catL (s56 _ _ e14) e6 (by rw [vIs_len, List.length_replicate]; omega) fun sq2 H6 s7 _ e7 => ?_
    have s57 := s56.trans s7
    -- digits
    refine ⟨_, rfl, by decide, fun l3 hl3 => ⟨_, rfl, _, rfl, dq, _, rfl, .inl (SqL.of (same_new hl3 _ _ (s57 _ _ e4))), _, _, rfl, rfl, ?_⟩⟩
    have s8 := same_new (o := .lst [.int 0]) hl3
    refine repL (n := M - DG.length) upd_same (by rw [vIs_len]; omega) (by omega) fun l4 H7 s9 _ e9 => ?_
    have s79 := s57.trans (s8.trans s9)
    refine catL (s79 _ _ e4) e9 (by rw [vIs_len, List.length_replicate]; omega) fun dq2 H8 s10 _ e10 => ?_
    have eS : H8 sq2 = some (.lst (vIs (SG ++ List.replicate (M - SG.length) 0))) := by
      rw [(s8.trans (s9.trans s10)) _ _ e7, vIs_app, ← vIs_rep]
      rfl
    have eD : H8 dq2 = some (.lst (vIs (DG ++ List.replicate (M - DG.length) 0))) := by
      rw [e10, vIs_app, ← vIs_rep]
      rfl
    have s18 := s14.trans (s79.trans s10)
    have lS : (vIs (SG ++ List.replicate (M - SG.length) 0)).length = M := by rw [vIs_len, List.length_append, List.length_replicate]; omega
    have lD : (vIs (DG ++ List.replicate (M - DG.length) 0)).length = M := by rw [vIs_len, List.length_append, List.length_replicate]; omega
    -- cells
    have hcells : cellsL SG DG = List.zipWith (fun s d => 2 * s + d) (SG ++ List.replicate (M - SG.length) 0) (DG ++ List.replicate (M - DG.length) 0) := by
      unfold cellsL
      rw [hM]
    generalize SG ++ List.replicate (M - SG.length) 0 = SP at *
    generalize DG ++ List.replicate (M - DG.length) 0 = DP at *
    have lS' : SP.length = M := by rw [← lS, vIs_len]
    have lD' : DP.length = M := by rw [← lD, vIs_len]
    have lC : (cellsL SG DG).length = M := by rw [hcells, List.length_zipWith]; omega
    generalize hCL : cellsL SG DG = CL at *
    refine gN (σ' := [some (.ref p), some (.ref cp), some (.ref sq2), some (.ref dq2), some (vI M), none, some (vI c.st), some lv, some (vI c.h), some (.ref rp), none, none]) rfl ?_
    refine ⟨_, rfl, _, rfl, sq2, dq2, _, _, rfl, SqL.of eS, SqL.of eD, fun D hD => ?_⟩
    refine lc_zip M lS lD (fun i H' => Same H8 H' ∧ H' D = some (.lst (vIs (CL.take i)))) ⟨same_new hD, upd_same⟩ (fun i H' ⟨s, _⟩ => ⟨s _ _ eS, s _ _ eD⟩) ?_ ?_
    · rintro i x y H9 t hx hy ⟨s9, e9⟩ ht
      obtain ⟨sg, hsg, rfl⟩ := vIs_get hx
      obtain ⟨dg, hdg, rfl⟩ := vIs_get hy
      have hi : i < CL.length := by
        have := (List.getElem?_eq_some_iff.mp hsg).1
        omega
      have hci : CL[i]? = some (2 * sg + dg) := by rw [hcells, List.getElem?_zipWith, hsg, hdg]
      have s10 := same_new (o := .tup [vI sg, vI dg]) ht
      refine ⟨t, _, rfl, SqT.of upd_same, rfl, _, _, rfl, _, _, rfl, rfl, rfl, ?_⟩
      dsimp only [tYes]
      rw [if_pos rfl]
      refine ⟨_, rfl, _, _, rfl, rfl, .inl ⟨by decide, by decide⟩, _, rfl, _, _, rfl, rfl, _, s10 _ _ e9, ?_, fun b o hb => ?_, ?_⟩
      · rw [vIs_len]
        have := List.length_take_le i CL
        exact Nat.lt_of_le_of_lt (by omega : _ ≤ 60000) (by decide)
      · rw [upd_ne (ne_of_none hb hD)]
        exact s10 _ _ (s9 _ _ hb)
      · show _ = _
        dsimp only
        rw [upd_same, List.take_succ, hci, vI_eq (a := 2 * (sg : Int) + (dg : Int)) (b := 2 * sg + dg) (by omega)]
        exact congrArg (fun z => some (HO.lst z)) (vIs_snoc _ _).symm
    · rintro H9 ⟨s9, e9⟩
      rw [List.take_of_length_le (by omega)] at e9
      have hM1 : 0 < CL.length := by
        rw [lC, ← hM, ← hDG, List.length_cons]
        omega
      refine gN (σ' := [some (.ref p), some (.ref cp), some (.ref sq2), some (.ref dq2), some (vI M), some (.ref D), some (vI c.st), some lv, some (vI c.h), some (.ref rp), none, none]) rfl ?_
      refine ⟨_, rfl, _, rfl, _, _, _, _, rfl, rfl, SqL.of e9, atI_vIs (ns := CL) (z := 0) (i := 0) rfl hM1, ?_⟩
      refine ⟨_, rfl, 1, rfl, D, _, rfl, SqL.of e9, fun q1 hq1 => ?_⟩
      have s11 := same_new (o := .lst (cutV (vIs CL) (some 1) none)) hq1
      refine ⟨q1, CL.tail, rfl, ?_, by rw [List.length_tail]; omega, fun q2 H12 s12 e12 => ?_⟩
      · rw [upd_same, show cutV (vIs CL) (some 1) none = (vIs CL).drop 1 from cutV_drop (n := 1)]
        unfold vIs
        rw [List.drop_one, List.map_tail]
      · refine ⟨(by show 4 ≤ sizeLine; decide), fun q3 hq3 => ?_⟩
        have s13 := same_new (o := .tup [.int 0, lv, vI (g CL 0), .ref q2]) hq3
        have sall := ((s18.trans s9).trans (s11.trans s12)).trans s13
        refine k (.ref q3) _ sall ?_
        rw [show pic n (srcM rs) c = ⟨0, c.l, g CL 0, strip CL.tail⟩ by unfold pic; rw [hSG, hDG, hCL]]
        exact ⟨q3, lv, .ref q2, rfl, upd_same, hlv.same sall, ⟨q2, rfl, s13 _ _ e12⟩⟩
end
end TH
/-! Reading back. -/
namespace TH
open PySem PySem.Spec PyProof.Rows L2 UM
section
variable {P : Program} {w : World} {K : PySem.W.Frag} {mg : Str → Option Value} {base : Heap}
/-- [f(n) for n in ns if p(n)] -/
theorem q_lcI {σ : L2.St} {H : Hp} {i j : Nat} {tt : TT} {te : TE} {Qk : VK} {a : Addr} {ns : List Nat} (f : Nat → Nat) (p : Nat → Bool) (ha : σ[i]? = some (some (.ref a))) (e : H a = some (.lst (vIs ns))) (hl : ns.length ≤ 100000)
    (hw : ∀ x, wipe ((wipe σ [j]).set j (some x)) [j] = wipe σ [j]) (htt : ∀ n H Z, n ∈ ns → (∀ H', Same H H' → Z (p n) H') → tt ((wipe σ [j]).set j (some (vI n))) H Z)
    (ht : ∀ n H Z, n ∈ ns → Z (vI (f n)) H → te ((wipe σ [j]).set j (some (vI n))) H Z) (k : ∀ D H', Same H H' → H' D = some (.lst (vIs ((ns.filter p).map f))) → Qk (.ref D) H') : tLc (iList K (tVar i)) (gName j) tt te [j] σ H Qk := by
  refine ⟨_, ha, a, rfl, ⟨_, SqL.of e⟩, fun D hD => ?_⟩
  refine lc_list (xs := vIs ns) (fun m H' => Same H H' ∧ H' D = some (.lst (vIs (((ns.take m).filter p).map f)))) ⟨same_new hD, upd_same⟩ (fun m H' _ ⟨s, _⟩ => SqL.of (s _ _ e)) ?_ ?_
  · rintro m x H1 hx ⟨s1, e1⟩
    obtain ⟨n, hn, rfl⟩ := vIs_get hx
    have hm : m < ns.length := (List.getElem?_eq_some_iff.mp hn).1
    have hmem := List.mem_of_getElem? hn
    have htk : ns.take (m + 1) = ns.take m ++ [n] := by rw [List.take_succ, hn]; rfl
    refine ⟨hw _, htt n H1 _ hmem fun H2 s2 => ?_⟩
    rw [htk, List.filter_append, List.map_append]
    cases hp : p n with
    | true =>
      rw [if_pos rfl]
      refine ht n H2 _ hmem ⟨_, s2 _ _ e1, ?_, fun b o hb => ?_, ?_⟩
      · rw [vIs_len, List.length_map]
        have h1 := List.length_filter_le p (ns.take m)
        have h2 := List.length_take_le m ns
        exact Nat.lt_of_le_of_lt (by omega : _ ≤ 100000) (by decide)
      · rw [upd_ne (ne_of_none hb hD)]
        exact s2 _ _ (s1 _ _ hb)
      · rw [upd_same, ← vIs_snoc]
        unfold List.filter
        rw [hp]
        rfl
    | false =>
      rw [if_neg Bool.false_ne_true]
      refine ⟨s1.trans s2, ?_⟩
      rw [s2 _ _ e1]
      unfold List.filter
      rw [hp]
      exact congrArg (fun z => some (HO.lst (vIs z))) (List.append_nil _).symm
  · rintro H1 ⟨s1, e1⟩
    rw [vIs_len, List.take_length] at e1
    exact k D H1 s1 e1
theorem q_lcM {σ : L2.St} {H : Hp} {i j : Nat} {te : TE} {Qk : VK} {a : Addr} {ns : List Nat} (f : Nat → Nat) (ha : σ[i]? = some (some (.ref a))) (e : H a = some (.lst (vIs ns))) (hl : ns.length ≤ 100000)
    (hw : ∀ x, wipe ((wipe σ [j]).set j (some x)) [j] = wipe σ [j])
    (ht : ∀ n H Z, n ∈ ns → Z (vI (f n)) H → te ((wipe σ [j]).set j (some (vI n))) H Z) (k : ∀ D H', Same H H' → H' D = some (.lst (vIs (ns.map f))) → Qk (.ref D) H') : tLc (iList K (tVar i)) (gName j) tYes te [j] σ H Qk := by
  refine q_lcI f (fun _ => true) ha e hl hw (fun n H Z _ kk => kk H (Same.refl H)) ht fun D H' s q => k D H' s ?_
  rw [q, List.filter_eq_self.mpr fun _ _ => rfl]
theorem idxI {σ : L2.St} {H : Hp} {a : Addr} {ns : List Nat} {x : Nat} {Qk : VK} (e : H a = some (.lst (vIs ns))) (h : ns.idxOf x < ns.length) (k : Qk (vI (ns.idxOf x)) H) : (tCons (tC (vI x)) tNil) σ H fun xs H2 => rIndex K (.ref a) xs H2 Qk := by
  show rIndex K (.ref a) [vI x] H Qk
  refine ⟨a, _, _, ns.idxOf x, vI x, rfl, rfl, SqL.of e, rfl, ?_, ?_, ?_, fun m z' hm hz => ?_, k⟩
  · rw [List.all_eq_true]
    intro v hv
    obtain ⟨n, _, rfl⟩ := List.mem_map.mp hv
    rfl
  · rw [List.getElem?_map, List.getElem?_eq_getElem h, List.getElem_idxOf h]
    rfl
  · show ((x : Int) == (x : Int)) = true
    exact beq_self_eq_true _
  · obtain ⟨n, hn, rfl⟩ := vIs_get hz
    have : n ≠ x := fun z => by
      have hml : m < ns.length := (List.getElem?_eq_some_iff.mp hn).1
      have hnn : ns[m] = x := by
        have := (List.getElem?_eq_some_iff.mp hn).2
        rw [this, z]
      have hh := List.not_of_lt_findIdx (p := (· == x)) (xs := ns) hm
      rw [hnn, beq_self_eq_true] at hh
      cases hh
    show ((n : Int) == (x : Int)) = false
    exact beq_false_of_ne (by omega)
theorem rowTest {σ : L2.St} {H : Hp} {j n : Nat} {Z : Bool → Hp → Prop} (h : σ[j]? = some (some (vI n))) (k : ∀ H', Same H H' → Z (n == 3 || n == 4) H') : tTest (tOp (rIn K false) (tVar j) (tTup (tCons (tC (.int 3)) (tCons (tC (.int 4)) tNil)))) σ H Z := by
  refine ⟨_, h, (by decide : 2 ≤ sizeLine), fun p hp => ⟨p, _, rfl, .inr (SqT.of upd_same), rfl, rfl, _, rfl, ?_⟩⟩
  have e : (if false = true then !inV (vI n) [.int 3, .int 4] else inV (vI n) [.int 3, .int 4]) = (n == 3 || n == 4) := by
    rw [if_neg Bool.false_ne_true]
    unfold inV
    rw [List.any_cons, List.any_cons, List.any_nil, Bool.or_false]
    have h1 : ∀ c : Nat, eqV (.int (c : Int)) (vI n) = (n == c) := fun c => by
      by_cases h : n = c
      · rw [h, beq_self_eq_true]
        show ((c : Int) == (c : Int)) = true
        exact beq_self_eq_true _
      · rw [beq_false_of_ne h]
        show ((c : Int) == (n : Int)) = false
        exact beq_false_of_ne (by omega)
    have a := h1 3
    have b := h1 4
    rw [show ((3 : Nat) : Int) = 3 from rfl] at a
    rw [show ((4 : Nat) : Int) = 4 from rfl] at b
    rw [a, b]
  rw [e]
  exact k _ (same_new hp)
def spRB (K : PySem.W.Frag) : Sp := fun vs H Qk _ => ∃ (v cv : V) (z : Cfg), vs = [v, cv] ∧ CfgAt H cv z ∧ z.l.length + z.r.length ≤ 90000 ∧ ((cellsOf z).map (· / 2)).idxOf 1 < (cellsOf z).length ∧
  (((cellsOf z).map (· / 2)).filter fun s => s == 3 || s == 4).idxOf 4 < (((cellsOf z).map (· / 2)).filter fun s => s == 3 || s == 4).length ∧ ∀ v' H', Same H H' → CfgAt H' v' (rb z) → Qk v' H'
abbrev sc_urbN : List Str := ["self", "configuration", "cells", "signs", "digits", "place", "rows", "before", "_", "left", "here", "right", "cell", "sign"]
theorem sc_urb : FnScope sc_urbN ["self", "configuration"] (defScope s_ToUniversal_read_back) := ⟨rfl, rfl, rfl, by decide +kernel, rfl, by decide +kernel, by decide +kernel⟩
theorem ok_urb {f : Addr} {fd : FuncData} (F : FnP K d_ToUniversal_read_back f fd) (T : Tx K mg) (G_stripped : Cal P w K mg base 1 "stripped" ["symbols"] spStrip) : FnOk P w K mg base CX0 2 f fd ["self", "configuration"] (spRB K) := by
  refine F.ok sc_urb (fun vs H Q E h => ?_) (fun cdv A outer s H vs Q E hr h => ?_)
  · obtain ⟨v, cv, z, rfl, _⟩ := h
    rfl
  · obtain ⟨v, cv, z, rfl, hC, hl, hi1, hi2, k⟩ := h
    obtain ⟨cp, lv, rv, rfl, hcp, ⟨lp, rfl, hlp⟩, ⟨rp, rfl, hrp⟩⟩ := hC
    refine ⟨_, PSs.nox (pss_cons (ps_asg (pv 1) (pg_tup (by rfl) (pgs_cons (pg_name (i := 8) sc_urb.nd rfl (Or.inl rfl)) (pgs_cons (pg_name (i := 9) sc_urb.nd rfl (Or.inl rfl)) (pgs_cons (pg_name (i := 10) sc_urb.nd rfl (Or.inl rfl)) (pgs_cons (pg_name (i := 11) sc_urb.nd rfl (Or.inl rfl)) pgs_nil))))))
      (pss_cons (ps_set (i := 2) sc_urb.nd rfl (Or.inl rfl) (pe_callTy call_list_of (by rfl) T.f_list (by decide +kernel) (pa_cons (pe_op op_catA (pe_op op_catA (pe_revT (pv 9)) (pe_tup (pa_cons (pv 10) pa_nil))) (pv 11)) pa_nil)))
      (pss_cons (ps_setLc (i := 3) (own := [("cell", 12)]) (g := gName 12) (tt := tYes) (by rfl) sc_urb.nd rfl rfl (sw_true rfl rfl rfl (by decide +kernel)) (pi_list (pv 2)) (blkOk_by (own := [("cell", 12)]) (N := sc_urbN) (sc := defScope s_ToUniversal_read_back) (by decide +kernel)) (fun _ _ _ _ _ => pg_name (i := 12) sc_urb.nd rfl (Or.inl rfl)) (fun _ _ _ _ _ => pts_nil) (fun _ _ _ _ _ => (pe_op op_fdiv (pv 12) pe_int)))
      (pss_cons (ps_setLc (i := 4) (own := [("cell", 12)]) (g := gName 12) (tt := tYes) (by rfl) sc_urb.nd rfl rfl (sw_true rfl rfl rfl (by decide +kernel)) (pi_list (pv 2)) (blkOk_by (own := [("cell", 12)]) (N := sc_urbN) (sc := defScope s_ToUniversal_read_back) (by decide +kernel)) (fun _ _ _ _ _ => pg_name (i := 12) sc_urb.nd rfl (Or.inl rfl)) (fun _ _ _ _ _ => pts_nil) (fun _ _ _ _ _ => (pe_op op_mod (pv 12) pe_int)))
      (pss_cons (ps_set (i := 5) sc_urb.nd rfl (Or.inl rfl) (pe_bm PySem.F.plainAttrs_list PySem.F.slot_list_index PySem.F.type_list_index mt_index (pv 3) (pa_cons (pe_gint rfl T.i_OPEN) pa_nil)))
      (pss_cons (ps_setLc (i := 6) (own := [("sign", 13)]) (g := gName 13) (by rfl) sc_urb.nd rfl rfl (sw_true rfl rfl rfl (by decide +kernel)) (pi_list (pv 3)) (blkOk_by (own := [("sign", 13)]) (N := sc_urbN) (sc := defScope s_ToUniversal_read_back) (by decide +kernel)) (fun _ _ _ _ _ => pg_name (i := 13) sc_urb.nd rfl (Or.inl rfl)) (fun _ _ _ _ _ => (pts_one (pt_cmpR (show OpR _ (compareOp .In) (rIn K false) from op_in_seq) (pv 13) (pe_tup (pa_cons (pe_gint rfl T.i_ROW) (pa_cons (pe_gint rfl T.i_ACTIVE) pa_nil))) (by rfl)))) (fun _ _ _ _ _ => (pv 13)))
      (pss_cons (ps_set (i := 7) sc_urb.nd rfl (Or.inl rfl) (pe_callC G_stripped (hr.mono (by decide)) (by rfl) (pa_cons (pe_revL (pe_slice sl_list (pv 4) po_none (po_some (pv 5)))) pa_nil)))
      (pss_one (ps_ret (pe_tup (pa_cons (pe_bm PySem.F.plainAttrs_list PySem.F.slot_list_index PySem.F.type_list_index mt_index (pv 6) (pa_cons (pe_gint rfl T.i_ACTIVE) pa_nil)) (pa_cons (pv 7) (pa_cons (pe_ix ix_list (pv 4) (pv 5) (fun _ _ => rfl)) (pa_cons (pe_callC G_stripped (hr.mono (by decide)) (by rfl) (pa_cons (pe_slice sl_list (pv 4) (po_some (pe_op op_add (pv 5) pe_int)) po_none) pa_nil)) pa_nil)))))))))))))), ?_⟩
    refine ⟨_, rfl, cp, _, rfl, SqT.of hcp, rfl, _, _, rfl, _, _, rfl, _, _, rfl, _, _, rfl, rfl, ?_⟩
    -- cells
    refine ⟨_, rfl, lp, _, rfl, SqT.of hlp, fun t1 ht1 => ⟨_, rfl, (by show 1 ≤ sizeLine; decide), fun t2 ht2 => ?_⟩⟩
    have s1 := same_new (o := .tup (vIs z.l).reverse) ht1
    have s2 := same_new (o := .tup [vI z.h]) ht2
    refine catA (K := K) (xs := (vIs z.l).reverse) (ys := [vI z.h]) (s2 _ _ upd_same) upd_same (by rw [List.length_reverse, vIs_len]; show _ + 1 ≤ _; omega) fun t3 H3 s3 e3 => ⟨_, rfl, ?_⟩
    refine catA (K := K) (xs := (vIs z.l).reverse ++ [vI z.h]) (ys := vIs z.r) e3 (s3 _ _ (s2 _ _ (s1 _ _ hrp))) (by rw [List.length_append, List.length_reverse, vIs_len, vIs_len]; show _ + 1 + _ ≤ _; omega) fun t4 H4 s4 e4 => ?_
    refine ⟨t4, _, rfl, .inr (SqT.of e4), fun cq hcq => ?_⟩
    have eC : (vIs z.l).reverse ++ [vI z.h] ++ vIs z.r = vIs (cellsOf z) := by
      unfold cellsOf
      rw [vIs_app, vIs_app]
      unfold vIs
      rw [List.map_reverse]
      rfl
    rw [eC]
    have s5 := same_new (o := .lst (vIs (cellsOf z))) hcq
    have e5 : upd H4 cq (.lst (vIs (cellsOf z))) cq = some (.lst (vIs (cellsOf z))) := upd_same
    have s15 := s1.trans (s2.trans (s3.trans (s4.trans s5)))
    generalize upd H4 cq (.lst (vIs (cellsOf z))) = H5 at *
    have lC : (cellsOf z).length ≤ 90001 := by
      unfold cellsOf
      rw [List.length_append, List.length_append, List.length_reverse]
      show _ + 1 + _ ≤ _
      omega
    have eRB : rb z = ⟨(((cellsOf z).map (· / 2)).filter fun s => s == 3 || s == 4).idxOf 4, strip (((cellsOf z).map (· % 2)).take (((cellsOf z).map (· / 2)).idxOf 1)).reverse,
      g ((cellsOf z).map (· % 2)) (((cellsOf z).map (· / 2)).idxOf 1), strip (((cellsOf z).map (· % 2)).drop (((cellsOf z).map (· / 2)).idxOf 1 + 1))⟩ := rfl
    rw [eRB] at k
    generalize cellsOf z = C at *
    refine gN (σ' := [some v, some (.ref cp), some (.ref cq), none, none, none, none, none, some (vI z.st), some (.ref lp), some (vI z.h), some (.ref rp), none, none]) rfl ?_
    -- signs
    try dsimp only
    refine seq_asg ?_
    refine q_lcM (K := K) (σ := [some v, some (.ref cp), some (.ref cq), none, none, none, none, none, some (vI z.st), some (.ref lp), some (vI z.h), some (.ref rp), none, none]) (i := 2) (j := 12) (te := tOp (rI CDiv fun i j => V.int (i / j)) (tVar 12) (tC (.int 2))) (· / 2) rfl e5 (by omega) (fun _ => rfl) (fun n H Z _ kk => ⟨_, rfl, (n : Int), 2, rfl, rfl, ⟨by decide, by decide⟩, kk⟩) fun sq H6 s6 e6 => ?_
    refine gN (σ' := [some v, some (.ref cp), some (.ref cq), some (.ref sq), none, none, none, none, some (vI z.st), some (.ref lp), some (vI z.h), some (.ref rp), none, none]) rfl ?_
    -- digits
    have s56 := s15.trans s6
    try dsimp only
    refine seq_asg ?_
    refine q_lcM (K := K) (σ := [some v, some (.ref cp), some (.ref cq), some (.ref sq), none, none, none, none, some (vI z.st), some (.ref lp), some (vI z.h), some (.ref rp), none, none]) (i := 2) (j := 12) (te := tOp (rI (fun _ j => 0 < j) fun i j => V.int (i % j)) (tVar 12) (tC (.int 2))) (· % 2) rfl (s6 _ _ e5) (by omega) (fun _ => rfl) (fun n H Z _ kk => ⟨_, rfl, (n : Int), 2, rfl, rfl, (by decide : (0 : Int) < 2), kk⟩) fun dq H7 s7 e7 => ?_
    refine gN (σ' := [some v, some (.ref cp), some (.ref cq), some (.ref sq), some (.ref dq), none, none, none, some (vI z.st), some (.ref lp), some (vI z.h), some (.ref rp), none, none]) rfl ?_
    have e67 := s7 _ _ e6
    have s57 := s56.trans s7
    have lS : (C.map (· / 2)).length = C.length := List.length_map _
    have lD : (C.map (· % 2)).length = C.length := List.length_map _
    -- place
    refine ⟨_, rfl, .inl ⟨rfl, _, SqL.of e67⟩, ?_⟩
    refine idxI (K := K) (x := 1) e67 (by rw [lS]; exact hi1) ?_
    generalize hpl : (C.map (· / 2)).idxOf 1 = pl at *
    -- rows
    refine gN (σ' := [some v, some (.ref cp), some (.ref cq), some (.ref sq), some (.ref dq), some (vI pl), none, none, some (vI z.st), some (.ref lp), some (vI z.h), some (.ref rp), none, none]) rfl ?_
    try dsimp only
    refine seq_asg ?_
    refine q_lcI (K := K) (σ := [some v, some (.ref cp), some (.ref cq), some (.ref sq), some (.ref dq), some (vI pl), none, none, some (vI z.st), some (.ref lp), some (vI z.h), some (.ref rp), none, none]) (i := 3) (j := 13) (tt := tTest (tOp (rIn K false) (tVar 13) (tTup (tCons (tC (.int 3)) (tCons (tC (.int 4)) tNil))))) (te := tVar 13) (fun n => n) (fun s => s == 3 || s == 4) rfl e67 (by omega) (fun _ => rfl) (fun n H Z _ kk => rowTest rfl kk) (fun n H Z _ kk => ⟨_, rfl, kk⟩) fun rq H8 s8 e8 => ?_
    rw [List.map_id'] at e8
    refine gN (σ' := [some v, some (.ref cp), some (.ref cq), some (.ref sq), some (.ref dq), some (vI pl), some (.ref rq), none, some (vI z.st), some (.ref lp), some (vI z.h), some (.ref rp), none, none]) rfl ?_
    have e78 := s8 _ _ e7
    -- before
    refine ⟨_, rfl, _, rfl, _, rfl, dq, _, rfl, SqL.of e78, fun q1 hq1 => ⟨q1, _, rfl, SqL.of upd_same, fun q2 hq2 => ?_⟩⟩
    have s9 := (same_new (o := .lst (cutV (vIs (C.map (· % 2))) none (some (pl : Int)))) hq1).trans (same_new (o := .lst (cutV (vIs (C.map (· % 2))) none (some (pl : Int))).reverse) hq2)
    refine ⟨q2, ((C.map (· % 2)).take pl).reverse, rfl, ?_, by rw [List.length_reverse, List.length_take]; omega, fun q3 H9 s10 e10 => ?_⟩
    · rw [upd_same, cutV_take (by rw [vIs_len]; omega)]
      unfold vIs
      rw [List.map_reverse, List.map_take]
    have s810 := s8.trans (s9.trans s10)
    have e710 := s810 _ _ e7
    have e810 := s10 _ _ (s9 _ _ e8)
    refine gN (σ' := [some v, some (.ref cp), some (.ref cq), some (.ref sq), some (.ref dq), some (vI pl), some (.ref rq), some (.ref q3), some (vI z.st), some (.ref lp), some (vI z.h), some (.ref rp), none, none]) rfl ?_
    -- the result
    refine ⟨_, rfl, .inl ⟨rfl, _, SqL.of e810⟩, ?_⟩
    refine idxI (K := K) (x := 4) e810 hi2 ?_
    refine ⟨_, rfl, _, rfl, _, rfl, dq, _, _, _, rfl, rfl, SqL.of e710, atI_vIs (ns := C.map (· % 2)) rfl (by omega), ?_⟩
    refine ⟨_, rfl, _, rfl, _, _, rfl, rfl, _, rfl, dq, _, rfl, SqL.of e710, fun q4 hq4 => ?_⟩
    have s11 := same_new (o := .lst (cutV (vIs (C.map (· % 2))) (some ((pl : Int) + 1)) none)) hq4
    refine ⟨q4, (C.map (· % 2)).drop (pl + 1), rfl, ?_, by rw [List.length_drop]; omega, fun q5 H11 s12 e12 => ?_⟩
    · rw [upd_same, show cutV (vIs (C.map (· % 2))) (some ((pl : Int) + 1)) none = (vIs (C.map (· % 2))).drop (pl + 1) from cutV_drop (n := pl + 1)]
      unfold vIs
      rw [List.map_drop]
    refine ⟨(by show 4 ≤ sizeLine; decide), fun q6 hq6 => ?_⟩
    have s13 := same_new (o := .tup [vI ((((C.map (· / 2)).filter fun s => s == 3 || s == 4)).idxOf 4), .ref q3, vI (g (C.map (· % 2)) pl), .ref q5]) hq6
    have sall := (s57.trans s810).trans (s11.trans (s12.trans s13))
    exact k (.ref q6) _ sall ⟨q6, .ref q3, .ref q5, rfl, upd_same, ⟨q3, rfl, (s11.trans (s12.trans s13)) _ _ e10⟩, ⟨q5, rfl, s13 _ _ e12⟩⟩
end
end TH
/-! How many steps stand for a step. -/
namespace TH
open PySem PySem.Spec PyProof.Rows L2 UM
section
variable {P : Program} {w : World} {K : PySem.W.Frag} {mg : Str → Option Value} {base : Heap}
theorem seq_ifN {t : TT} {u u2 : TS} {D : Ends} {σ : L2.St} {H : Hp} (h : t σ H fun b H1 => if b = true then u { D with nx := u2 D } σ H1 else u2 D σ H1) : tSeq (tIfS t u tNext) u2 D σ H := h
def spSteps (K : PySem.W.Frag) : Sp := fun vs H Qk _ => ∃ (v cv : V) (n : Nat) (rs : List Rul) (c z1 z2 : Cfg) (k : Nat), vs = [v, cv] ∧ ToUAt K H v n rs ∧ CfgAt H cv c ∧ wide (pic n (srcM rs) c) ≤ 20000 ∧ c.r.length ≤ 50000 ∧
  stepC uniT (pic n (srcM rs) c) = some z1 ∧ k ≤ 3000 ∧ CPath uniT z1 k z2 ∧ (z2.st = 0 ∨ stepC uniT z2 = none) ∧ ∀ H', Same H H' → Qk (vI (1 + k)) H'
theorem tgt_step {σ : L2.St} {H : Hp} {p dx : Addr} {sv tv rv : V} {hv : V} {z : Cfg} {j : Nat} {Qk : VK} (T : Tx K mg) (hs : σ[0]? = some (some (.ref p))) (hp : H p = some (.ins (CU K) dx (fU sv tv rv))) (tu : TurAt K H tv 92 28 uniB.rules) (hj : σ[j]? = some (some hv)) (hz : CfgAt H hv z) (hw : wide z ≤ 90000)
    (k0 : stepC uniT z = none → ∀ H', Same H H' → Qk .non H') (k1 : ∀ z' v' H', stepC uniT z = some z' → Same H H' → CfgAt H' v' z' → Qk v' H') : tMeth (CT K) "step" (spStep K) [] E0 (tFld K (tVar 0) "target") (tCons (tVar j) tNil) σ H Qk := by
  obtain ⟨tp, tdx, tb, ru, rs', rfl, htp, _⟩ := id tu
  exact ⟨_, hs, p, CU K, dx, _, _, rfl, hp, T.c_ToUniversal, T.n_ToUniversal_target, rfl, tp, tdx, _, rfl, htp, rfl, _, hj, .ref tp, hv, 92, 28, uniB.rules, z, rfl, tu, hz, hw, k0, k1⟩
abbrev sc_ustepsN : List Str := ["self", "configuration", "here", "count", "following"]
theorem sc_usteps : FnScope sc_ustepsN ["self", "configuration"] (defScope s_ToUniversal_steps_to_home) := ⟨rfl, rfl, rfl, by decide +kernel, rfl, by decide +kernel, by decide +kernel⟩
theorem ok_usteps {f : Addr} {fd : FuncData} (F : FnP K d_ToUniversal_steps_to_home f fd) (T : Tx K mg) (G_Turing_step : Met P w K mg base 2 (CT K) "step" ["self", "configuration"] (spStep K)) (G_ToUniversal_picture : Met P w K mg base 2 (CU K) "picture" ["self", "configuration"] (spPic K)) : FnOk P w K mg base CX0 3 f fd ["self", "configuration"] (spSteps K) := by
  refine F.ok sc_usteps (fun vs H Q E h => ?_) (fun cdv A outer s H vs Q E hr h => ?_)
  · obtain ⟨v, cv, n, rs, c, z1, z2, k, rfl, _⟩ := h
    rfl
  · obtain ⟨v, cv, n, rs, c, z1, z2, kk, rfl, hU, hC, hwp, hcr, e1, hk, hpath, hend, k⟩ := h
    obtain ⟨p, dx, sv, tv, rq, as, rfl, hp, tur, tu, hq, hro, hrs, hn1, hn⟩ := id hU
    refine ⟨_, PSs.nox (pss_cons (ps_set (i := 2) sc_usteps.nd rfl (Or.inl rfl) (pe_methC (pe_fld (pv 0) rfl) T.c_Turing G_Turing_step (hr.mono (by decide)) (pa_cons (pe_methC (pv 0) T.c_ToUniversal G_ToUniversal_picture (hr.mono (by decide)) (pa_cons (pv 1) pa_nil)) pa_nil)))
      (pss_cons (ps_set (i := 3) sc_usteps.nd rfl (Or.inl rfl) pe_int)
      (pss_cons (ps_while PassesOwn.never (pt_cmpR op_ne (pe_ix ix_tup (pv 2) pe_int (fun _ _ => rfl)) pe_int (nomark _)) (pss_cons (ps_set (i := 4) sc_usteps.nd rfl (Or.inl rfl) (pe_methC (pe_fld (pv 0) rfl) T.c_Turing G_Turing_step (hr.mono (by decide)) (pa_cons (pv 2) pa_nil)))
      (pss_cons (ps_if (pt_cmpR op_isN (pv 4) pe_non (nomark _)) (pss_one (ps_ret (pv 3))) pss_nil)
      (pss_cons (ps_set (i := 2) sc_usteps.nd rfl (Or.inl rfl) (pv 4))
      (pss_one (ps_aug (i := 3) sc_usteps.nd rfl (Or.inl rfl) pe_int ip_add))))))
      (pss_one (ps_ret (pv 3)))))), ?_⟩
    obtain ⟨tp, tdx, tb, ru, rs', rfl, htp, _⟩ := id tu
    -- the picture, the first step
    refine ⟨_, rfl, p, CU K, dx, _, _, rfl, hp, T.c_ToUniversal, T.n_ToUniversal_target, rfl, tp, tdx, _, rfl, htp, rfl, _, rfl, p, dx, _, rfl, hp, rfl, _, rfl, .ref p, cv, n, rs, c, rfl, hU, hC, hcr, fun pv H1 s1 hpv => ?_⟩
    refine ⟨.ref tp, pv, 92, 28, uniB.rules, pic n (srcM rs) c, rfl, tu.same s1, hpv, (by unfold wide at hwp; omega), fun e => ?_, fun z' hv H2 e s2 hz => ?_⟩
    · have : stepC uniT (pic n (srcM rs) c) = none := e
      rw [e1] at this
      cases this
    have : stepC uniT (pic n (srcM rs) c) = some z' := e
    rw [e1] at this
    cases this
    have hw1 := wide_step e1
    refine gN (σ' := [some (.ref p), some cv, some hv, none, none]) rfl ?_
    -- the loop
    refine ⟨fun m σ H' => ∃ hv fv z, σ = [some (.ref p), some cv, some hv, some (vI (1 + (kk - m))), fv] ∧ m ≤ kk ∧ Same H H' ∧ CfgAt H' hv z ∧ CPath uniT z m z2 ∧ wide z ≤ 20001 + (kk - m), ⟨kk, hv, none, z1, by rw [Nat.sub_self]; rfl, Nat.le_refl _, s1.trans s2, hz, hpath, by omega⟩, ?_⟩
    rintro m σ H3 ⟨hv, fv, z, rfl, hm, s3, hz, hpz, hwz⟩
    obtain ⟨hp0, lv, rv, rfl, hh, hl, hr0⟩ := id hz
    refine ⟨_, rfl, _, _, _, _, rfl, rfl, SqT.of hh, atI_nat (v := vI z.st) (j := 0) rfl, rfl, _, rfl, iteB (fun h1 => ?_) fun h1 => ?_⟩
    · refine ⟨_, fun σ' H' z => z, ?_⟩
      have hnz : z.st ≠ 0 := fun q => by
        rw [q] at h1
        exact absurd h1 (by decide)
      refine tgt_step (K := K) (z := z) (j := 2) T rfl (s3 _ _ hp) (tu.same s3) rfl hz (by omega) (fun e H4 s4 => ?_) fun z' v' H4 e s4 hz' => ?_
      · refine gN (σ' := [some (.ref p), some cv, some (.ref hp0), some (vI (1 + (kk - m))), some .non]) rfl ?_
        refine ⟨_, rfl, rfl, _, rfl, iteT ?_⟩
        cases hpz with
        | refl => exact ⟨_, rfl, by rw [Nat.sub_zero]; exact k H4 (s3.trans s4)⟩
        | step _ e' _ =>
          rw [e] at e'
          cases e'
      · obtain ⟨hp4, lv4, rv4, rfl, hh4, hl4, hr4⟩ := id hz'
        refine gN (σ' := [some (.ref p), some cv, some (.ref hp0), some (vI (1 + (kk - m))), some (.ref hp4)]) rfl ?_
        refine ⟨_, rfl, rfl, _, rfl, iteF ?_⟩
        refine ⟨_, rfl, ?_⟩
        refine gN (σ' := [some (.ref p), some cv, some (.ref hp4), some (vI (1 + (kk - m))), some (.ref hp4)]) rfl ?_
        cases hpz with
        | refl =>
          rcases hend with q | q
          · exact absurd q hnz
          · rw [e] at q
            cases q
        | @step _ c1 _ m' _ e' r =>
          rw [e] at e'
          cases e'
          have hw2 := wide_step e
          refine ⟨_, rfl, _, _, rfl, rfl, m', by omega, .ref hp4, some (.ref hp4), z', ?_, by omega, s3.trans s4, hz', r, by omega⟩
          show [some (.ref p), some cv, some (.ref hp4), some (V.int (((1 + (kk - (m' + 1)) : Nat) : Int) + 1)), some (.ref hp4)] = _
          rw [vI_eq (a := ((1 + (kk - (m' + 1)) : Nat) : Int) + 1) (b := 1 + (kk - m')) (by omega)]
    · have hz0 : z.st = 0 := by
        have h2 : decide (vI z.st = vI 0) = true := by
          have : (!decide (vI z.st = vI 0)) = false := h1
          simpa using this
        exact vI_inj (of_decide_eq_true h2)
      cases hpz with
      | refl => exact ⟨_, rfl, by rw [Nat.sub_zero]; exact k H3 s3⟩
      | step h _ _ => exact absurd hz0 h
abbrev sc_ucostN : List Str := ["self", "configuration"]
theorem sc_ucost : FnScope sc_ucostN ["self", "configuration"] (defScope s_ToUniversal_cost) := ⟨rfl, rfl, rfl, by decide +kernel, rfl, by decide +kernel, by decide +kernel⟩
theorem ok_ucost {f : Addr} {fd : FuncData} (F : FnP K d_ToUniversal_cost f fd) (T : Tx K mg) (G_ToUniversal_steps_to_home : Met P w K mg base 3 (CU K) "steps_to_home" ["self", "configuration"] (spSteps K)) : FnOk P w K mg base CX0 4 f fd ["self", "configuration"] (spSteps K) := by
  refine F.ok sc_ucost (fun vs H Q E h => ?_) (fun cdv A outer s H vs Q E hr h => ?_)
  · obtain ⟨v, cv, n, rs, c, z1, z2, k, rfl, _⟩ := h
    rfl
  · obtain ⟨v, cv, n, rs, c, z1, z2, kk, rfl, hU, rest⟩ := h
    obtain ⟨p, dx, sv, tv, rq, as, rfl, hp, _⟩ := id hU
    refine ⟨_, PSs.nox (pss_one (ps_ret (pe_methC (pv 0) T.c_ToUniversal G_ToUniversal_steps_to_home (hr.mono (by decide)) (pa_cons (pv 1) pa_nil)))), ?_⟩
    exact ⟨_, rfl, p, dx, _, rfl, hp, rfl, _, rfl, .ref p, cv, n, rs, c, z1, z2, kk, rfl, hU, rest⟩
abbrev sc_ulastN : List Str := ["self", "configuration"]
theorem sc_ulast : FnScope sc_ulastN ["self", "configuration"] (defScope s_ToUniversal_last_steps) := ⟨rfl, rfl, rfl, by decide +kernel, rfl, by decide +kernel, by decide +kernel⟩
theorem ok_ulast {f : Addr} {fd : FuncData} (F : FnP K d_ToUniversal_last_steps f fd) (T : Tx K mg) (G_ToUniversal_steps_to_home : Met P w K mg base 3 (CU K) "steps_to_home" ["self", "configuration"] (spSteps K)) : FnOk P w K mg base CX0 4 f fd ["self", "configuration"] (spSteps K) := by
  refine F.ok sc_ulast (fun vs H Q E h => ?_) (fun cdv A outer s H vs Q E hr h => ?_)
  · obtain ⟨v, cv, n, rs, c, z1, z2, k, rfl, _⟩ := h
    rfl
  · obtain ⟨v, cv, n, rs, c, z1, z2, kk, rfl, hU, rest⟩ := h
    obtain ⟨p, dx, sv, tv, rq, as, rfl, hp, _⟩ := id hU
    refine ⟨_, PSs.nox (pss_one (ps_ret (pe_methC (pv 0) T.c_ToUniversal G_ToUniversal_steps_to_home (hr.mono (by decide)) (pa_cons (pv 1) pa_nil)))), ?_⟩
    exact ⟨_, rfl, p, dx, _, rfl, hp, rfl, _, rfl, .ref p, cv, n, rs, c, z1, z2, kk, rfl, hU, rest⟩
end
end TH
/-! The law's small functions. -/
namespace TH
open PySem PySem.Spec PyProof.Rows L2 UM
section
variable {P : Program} {w : World} {K : PySem.W.Frag} {mg : Str → Option Value} {base : Heap}
theorem tand_of {tA tB : TT} {σ : L2.St} {H : Hp} {p q : Bool} {Z : Bool → Hp → Prop} (hA : ∀ Z : Bool → Hp → Prop, Z p H → tA σ H Z) (hB : ∀ Z : Bool → Hp → Prop, Z q H → tB σ H Z) (k : Z (p && q) H) : tAnd tA tB σ H Z := by
  refine hA _ ?_
  cases p with
  | true =>
    rw [if_pos rfl]
    exact hB _ k
  | false =>
    rw [if_neg Bool.false_ne_true]
    exact k
theorem gNI {i : Nat} {z m : Int} {σ : L2.St} (σ' : Int → L2.St) {H : Hp} {Z : L2.St → Hp → Prop} (hm : 0 < m) (e : ∀ y, σ.set i (some (.int y)) = σ' y) (h : ∀ y, 0 ≤ y → y < m → Z (σ' y) H) : gName i (V.int (z % m)) σ H Z := by
  show Z (σ.set i (some (.int (z % m)))) H
  rw [e]
  exact h _ (Int.emod_nonneg _ (by omega)) (Int.emod_lt_of_pos _ hm)
def spCount : Sp := fun vs H Qk _ => ∃ (i l : Int), vs = [.int i, .int l] ∧ l ≤ i ∧ Qk (.bl true) H
abbrev sc_lcountN : List Str := ["_law_number", "_law_least"]
theorem sc_lcount : FnScope sc_lcountN ["_law_number", "_law_least"] (defScope s_law_is_count) := ⟨rfl, rfl, rfl, by decide +kernel, rfl, by decide +kernel, by decide +kernel⟩
theorem ok_lcount {f : Addr} {fd : FuncData} (F : FnP K d_law_is_count f fd) (T : Tx K mg) : FnOk P w K mg base CX0 1 f fd ["_law_number", "_law_least"] spCount := by
  refine F.ok sc_lcount (fun vs H Q E h => ?_) (fun cdv A outer s H vs Q E hr h => ?_)
  · obtain ⟨i, l, rfl, _⟩ := h
    rfl
  · obtain ⟨i, l, rfl, hl, k⟩ := h
    refine ⟨_, PSs.nox (pss_one (ps_ret (pe_and (pe_callB call_isi (by rfl) T.f_isinstance (by decide +kernel) (pa_cons (pv 0) (pa_cons (pe_ty (n := "int") rfl T.f_int (by decide +kernel)) pa_nil))) (pe_and (pe_not (pe_callB call_isi (by rfl) T.f_isinstance (by decide +kernel) (pa_cons (pv 0) (pa_cons (pe_ty (n := "bool") rfl T.f_bool (by decide +kernel)) pa_nil)))) (pe_one (pe_cmpR op_ge (pv 0) (pv 1) (nomark _))))))), ?_⟩
    refine ⟨_, rfl, .int i, .ty "int", .type "int", .type "int", true, rfl, .ty _, .base (.int i), kit_ty rfl, true, rfl, iteT ?_⟩
    refine ⟨_, rfl, .int i, .ty "bool", .type "int", .type "bool", false, rfl, .ty _, .base (.int i), kit_ty rfl, _, rfl, ?_⟩
    refine ⟨_, rfl, iteT ⟨_, rfl, _, rfl, _, _, rfl, rfl, ?_⟩⟩
    show Q (.bl (decide (l ≤ i))) H
    rw [decide_eq_true hl]
    exact k
/-- what stands at a place of the script, or 0 -/
def cellI (ns : List Int) (i : Nat) : Int := ((ns.getD i 0).natAbs : Int)
def spCell (K : PySem.W.Frag) : Sp := fun vs H Qk _ => ∃ (a : Addr) (ns : List Int) (i : Nat), vs = [.ref a, vI i] ∧ SqL K H a (ns.map V.int) ∧ Qk (.int (cellI ns i)) H
abbrev sc_lcellN : List Str := ["_law_script", "_law_k"]
theorem sc_lcell : FnScope sc_lcellN ["_law_script", "_law_k"] (defScope s_law_cell) := ⟨rfl, rfl, rfl, by decide +kernel, rfl, by decide +kernel, by decide +kernel⟩
theorem ok_lcell {f : Addr} {fd : FuncData} (F : FnP K d_law_cell f fd) (T : Tx K mg) : FnOk P w K mg base CX0 1 f fd ["_law_script", "_law_k"] (spCell K) := by
  refine F.ok sc_lcell (fun vs H Q E h => ?_) (fun cdv A outer s H vs Q E hr h => ?_)
  · obtain ⟨a, ns, i, rfl, _⟩ := h
    rfl
  · obtain ⟨a, ns, i, rfl, ha, k⟩ := h
    refine ⟨_, PSs.nox (pss_cons (ps_if (pt_cmpR op_lt (pv 1) (pe_callB call_len_seq (by rfl) T.f_len PySem.boot_len (pa_cons (pv 0) pa_nil)) (nomark _)) (pss_one (ps_ret (pe_callB call_abs (by rfl) T.f_abs (by decide +kernel) (pa_cons (pe_callTy call_int1 (by rfl) T.f_int (by decide +kernel) (pa_cons (pe_ix ix_list (pv 0) (pv 1) (fun _ _ => rfl)) pa_nil)) pa_nil)))) pss_nil)
      (pss_one (ps_ret pe_int))), ?_⟩
    refine ⟨_, rfl, _, rfl, a, _, rfl, .inl ha, _, _, rfl, rfl, _, rfl, iteB (fun h1 => ?_) fun h1 => ?_⟩
    · have hi : i < ns.length := by
        have := of_decide_eq_true h1
        rw [List.length_map] at this
        omega
      have hg : ns.getD i 0 = ns[i] := by rw [List.getD_eq_getElem?_getD, List.getElem?_eq_getElem hi]; rfl
      refine ⟨_, rfl, _, rfl, a, _, _, _, rfl, rfl, ha, atI_nat (v := .int ns[i]) (by rw [List.getElem?_map, List.getElem?_eq_getElem hi]; rfl), .inl ⟨_, rfl, _, rfl, ?_⟩⟩
      have : (if ns[i] < 0 then -ns[i] else ns[i]) = cellI ns i := by
        unfold cellI
        rw [hg]
        split <;> omega
      rw [this]
      exact k
    · have hi : ¬ i < ns.length := by
        have := of_decide_eq_false h1
        rw [List.length_map] at this
        omega
      have : cellI ns i = 0 := by
        unfold cellI
        rw [List.getD_eq_getElem?_getD, List.getElem?_eq_none (by omega)]
        rfl
      rw [this] at k
      exact k
/-- draws: so many numbers below 4096 -/
def Dr (n : Nat) (ds : List Nat) : Prop := ds.length = n ∧ ∀ d ∈ ds, d < 4096
def spDraws : Sp := fun vs H Qk _ => ∃ (c : Int) (n : Nat), vs = [.int c, vI n] ∧ 0 ≤ c ∧ n ≤ 100 ∧ ∀ ds p H', Same H H' → Dr n ds → H' p = some (.lst (vIs ds)) → Qk (.ref p) H'
abbrev sc_ldrawsN : List Str := ["_law_cell_here", "_law_count", "_law_rows", "_law_left", "_law_k", "_law_mixed"]
theorem sc_ldraws : FnScope sc_ldrawsN ["_law_cell_here", "_law_count"] (defScope s_law_draws) := ⟨rfl, rfl, rfl, by decide +kernel, rfl, by decide +kernel, by decide +kernel⟩
theorem ok_ldraws {f : Addr} {fd : FuncData} (F : FnP K d_law_draws f fd) (T : Tx K mg) : FnOk P w K mg base CX0 1 f fd ["_law_cell_here", "_law_count"] spDraws := by
  refine F.ok sc_ldraws (fun vs H Q E h => ?_) (fun cdv A outer s H vs Q E hr h => ?_)
  · obtain ⟨c, n, rfl, _⟩ := h
    rfl
  · obtain ⟨c, n, rfl, hc, hn, k⟩ := h
    refine ⟨_, PSs.nox (pss_cons (ps_set (i := 2) sc_ldraws.nd rfl (Or.inl rfl) (pe_lst pa_nil))
      (pss_cons (ps_set (i := 3) sc_ldraws.nd rfl (Or.inl rfl) (pv 0))
      (pss_cons (ps_for PassesOwn.never (by rfl) (pi_range1 (by rfl) T.f_range (pa_cons (pv 1) pa_nil)) (pg_name (i := 4) sc_ldraws.nd rfl (Or.inl rfl)) (pss_one (ps_if (PW.pt (pw_and (pt_cmpR op_ge (pv 0) (pe_op op_pow pe_int pe_int) (nomark _)) (pw_and1 (pt_cmpR op_gt (pv 3) pe_int (nomark _))))) (pss_cons (ps_expr (pe_bm PySem.F.plainAttrs_list PySem.F.slot_list_append PySem.F.type_list_append mt_append (pv 2) (pa_cons (pe_op op_mod (pe_callTy call_int1 (by rfl) T.f_int (by decide +kernel) (pa_cons (pv 3) pa_nil)) pe_int) pa_nil)))
      (pss_one (ps_set (i := 3) sc_ldraws.nd rfl (Or.inl rfl) (pe_op op_fdiv (pv 3) pe_int)))) (pss_cons (ps_set (i := 5) sc_ldraws.nd rfl (Or.inl rfl) (pe_op op_mod (pe_callTy call_int1 (by rfl) T.f_int (by decide +kernel) (pa_cons (pe_op op_add (pe_op op_mul (pv 0) pe_int) (pe_op op_mul (pe_op op_add (pv 4) pe_int) pe_int)) pa_nil)) pe_int))
      (pss_cons (ps_set (i := 5) sc_ldraws.nd rfl (Or.inl rfl) (pe_op op_mod (pe_callTy call_int1 (by rfl) T.f_int (by decide +kernel) (pa_cons (pe_op op_add (pe_op op_add (pe_op op_mul (pv 5) (pv 5)) (pe_op op_mul (pv 5) pe_int)) (pe_op op_mul (pv 4) pe_int)) pa_nil)) pe_int))
      (pss_cons (ps_set (i := 5) sc_ldraws.nd rfl (Or.inl rfl) (pe_op op_mod (pe_callTy call_int1 (by rfl) T.f_int (by decide +kernel) (pa_cons (pe_op op_add (pe_op op_add (pe_op op_mul (pv 5) (pv 5)) (pv 0)) (pe_op op_mul pe_int (pv 4))) pa_nil)) pe_int))
      (pss_one (ps_expr (pe_bm PySem.F.plainAttrs_list PySem.F.slot_list_append PySem.F.type_list_append mt_append (pv 2) (pa_cons (pe_op op_mod (pe_op op_fdiv (pv 5) pe_int) pe_int) pa_nil))))))))))
      (pss_one (ps_ret (pv 2)))))), ?_⟩
    refine ⟨by decide, fun rp hrp => ?_⟩
    have s1 := same_new (o := .lst []) hrp
    have e1 : upd H rp (.lst []) rp = some (.lst []) := upd_same
    generalize upd H rp (.lst []) = H1 at *
    refine gN (σ' := [some (.int c), some (vI n), some (.ref rp), none, none, none]) rfl ?_
    refine ⟨_, rfl, ?_⟩
    refine gN (σ' := [some (.int c), some (vI n), some (.ref rp), some (.int c), none, none]) rfl ?_
    refine ⟨_, rfl, n, rfl, by omega, by omega, ?_⟩
    refine for_rangeN (n := n) (fun i σ H' => ∃ (l : Int) (o4 o5 : Option V), σ = [some (.int c), some (vI n), some (.ref rp), some (.int l), o4, o5] ∧ 0 ≤ l ∧ Same H H' ∧ ∃ ds, Dr i ds ∧ H' rp = some (.lst (vIs ds)))
      ⟨c, none, none, rfl, hc, s1, [], ⟨rfl, fun d hd => nomatch hd⟩, e1⟩ ?_ ?_
    · rintro i σ H2 hi ⟨l, o4, o5, rfl, hl, s2, ds, hds, e2⟩
      refine gN (σ' := [some (.int c), some (vI n), some (.ref rp), some (.int l), some (vI i), o5]) rfl ?_
      have app : ∀ (z : Int) (Z : VK), 0 ≤ z → z < 4096 → (∀ H', Same H H' → (∃ ds, Dr (i + 1) ds ∧ H' rp = some (.lst (vIs ds))) → Z .non H') → rAppend (.ref rp) [.int z] H2 Z := fun z Z h0 h1 kk => by
        refine ⟨rp, _, _, rfl, rfl, e2, by rw [vIs_len, hds.1]; exact Nat.lt_of_lt_of_le hi (Nat.le_trans hn (by decide)), kk _ (fun b o hb => ?_) ⟨ds ++ [z.toNat], ⟨by rw [List.length_append, hds.1]; rfl, fun d hd => ?_⟩, ?_⟩⟩
        · rw [upd_ne (ne_of_none hb hrp)]
          exact s2 _ _ hb
        · rcases List.mem_append.mp hd with q | q
          · exact hds.2 d q
          · rw [List.mem_singleton.mp q]
            omega
        · rw [upd_same, vIs_snoc, vI_eq (a := z) (b := z.toNat) (by omega)]
      refine tand_of (p := decide ((10 : Int) ^ 18 ≤ c)) (q := decide (0 < l)) (fun Z z => ⟨_, rfl, _, _, rfl, rfl, ⟨by decide, by decide, by decide⟩, _, _, rfl, rfl, _, rfl, z⟩) (fun Z z => ⟨_, rfl, _, _, rfl, rfl, _, rfl, z⟩) (iteB (fun h1 => ?_) fun h1 => ?_)
      · refine ⟨_, rfl, .inl ⟨rfl, _, SqL.of e2⟩, _, rfl, .inl ⟨_, rfl, _, _, rfl, rfl, (by decide : (0 : Int) < 4096), ?_⟩⟩
        dsimp only [tNil]
        refine app (l % 4096) _ (Int.emod_nonneg _ (by decide)) (Int.emod_lt_of_pos _ (by decide)) fun H3 s3 hd => ?_
        refine ⟨_, rfl, _, _, rfl, rfl, ⟨by decide, by decide⟩, ?_⟩
        exact ⟨l / 4096, _, _, rfl, Int.ediv_nonneg hl (by decide), s3, hd⟩
      · refine ⟨_, rfl, _, _, rfl, rfl, .inr ⟨by decide, by decide⟩, _, rfl, _, _, rfl, rfl, _, _, rfl, rfl, .inr ⟨by decide, by decide⟩, _, _, rfl, rfl, .inl ⟨_, rfl, _, _, rfl, rfl, (by decide : (0 : Int) < 2147483647), ?_⟩⟩
        dsimp only
        refine gNI (m := 2147483647) (fun y => [some (.int c), some (vI n), some (.ref rp), some (.int l), some (vI i), some (.int y)]) (by decide) (fun _ => rfl) fun y1 a1 b1 => ?_
        refine ⟨_, rfl, _, rfl, _, _, rfl, rfl, .inl ⟨by omega, by omega⟩, _, rfl, _, _, rfl, rfl, .inl ⟨by omega, by omega⟩, _, _, rfl, rfl, _, rfl, _, _, rfl, rfl, .inr ⟨by decide, by decide⟩, _, _, rfl, rfl, .inl ⟨_, rfl, _, _, rfl, rfl, (by decide : (0 : Int) < 2147483629), ?_⟩⟩
        dsimp only
        refine gNI (m := 2147483629) (fun y => [some (.int c), some (vI n), some (.ref rp), some (.int l), some (vI i), some (.int y)]) (by decide) (fun _ => rfl) fun y2 a2 b2 => ?_
        refine ⟨_, rfl, _, rfl, _, _, rfl, rfl, .inl ⟨by omega, by omega⟩, _, rfl, _, _, rfl, rfl, _, rfl, _, _, rfl, rfl, .inl ⟨by decide, by decide⟩, _, _, rfl, rfl, .inl ⟨_, rfl, _, _, rfl, rfl, (by decide : (0 : Int) < 2147483587), ?_⟩⟩
        dsimp only
        refine gNI (m := 2147483587) (fun y => [some (.int c), some (vI n), some (.ref rp), some (.int l), some (vI i), some (.int y)]) (by decide) (fun _ => rfl) fun y3 a3 b3 => ?_
        refine ⟨_, rfl, .inl ⟨rfl, _, SqL.of e2⟩, _, rfl, _, _, rfl, rfl, ⟨by decide, by decide⟩, _, _, rfl, rfl, (by decide : (0 : Int) < 4096), ?_⟩
        dsimp only [tNil]
        refine app (y3 / 7 % 4096) _ (Int.emod_nonneg _ (by decide)) (Int.emod_lt_of_pos _ (by decide)) fun H3 s3 hd => ?_
        exact ⟨l, _, _, rfl, hl, s3, hd⟩
    · rintro σ H2 ⟨l, o4, o5, rfl, hl, s2, ds, hds, e2⟩
      exact ⟨_, rfl, k ds rp H2 s2 hds e2⟩
end
end TH
/-! The law's strip, table, step. -/
namespace TH
open PySem PySem.Spec PyProof.Rows L2 UM
section
variable {P : Program} {w : World} {K : PySem.W.Frag} {mg : Str → Option Value} {base : Heap}
theorem norm_st {σ σ' : L2.St} {H : Hp} {Z : L2.St → Hp → Prop} (e : σ = σ') (h : Z σ' H) : Z σ H := e ▸ h
theorem head_at (l : List Nat) : atI (vIs l ++ [.int 0]) 0 = some (vI (l.headD 0)) := by
  cases l with
  | nil => exact atI_nat (j := 0) rfl
  | cons a l => exact atI_nat (j := 0) rfl
/-- the law's loop -/
def Lz (ns : List Nat) (i m : Nat) : Prop := m ≤ ns.length ∧ (∀ j, m ≤ j → j < ns.length → g ns j = 0) ∧ (m + i = ns.length ∨ m = 0 ∨ g ns (m - 1) ≠ 0)
theorem Lz.dec {ns : List Nat} {i m : Nat} (h : Lz ns i m) (h0 : 0 < m) (hg : g ns (m - 1) = 0) : Lz ns (i + 1) (m - 1) := by
  obtain ⟨h1, h2, h3⟩ := h
  refine ⟨by omega, fun j a b => ?_, ?_⟩
  · rcases (by omega : j = m - 1 ∨ m ≤ j) with rfl | q
    · exact hg
    · exact h2 j q b
  · rcases h3 with q | q | q
    · exact .inl (by omega)
    · omega
    · exact absurd hg q
theorem Lz.stay {ns : List Nat} {i m : Nat} (h : Lz ns i m) (h0 : m = 0 ∨ g ns (m - 1) ≠ 0) : Lz ns (i + 1) m := ⟨h.1, h.2.1, .inr h0⟩
theorem Lz.fin {ns : List Nat} {m : Nat} (h : Lz ns ns.length m) : strip ns = ns.take m := strip_take h.1 h.2.1 (by
  rcases h.2.2 with q | q
  · exact .inl (by omega)
  · exact q)
def spLStripT : Sp := fun vs H Qk _ => ∃ (a : Addr) (ns : List Nat), vs = [.ref a] ∧ H a = some (.tup (vIs ns)) ∧ ns.length ≤ 100000 ∧ ∀ p H', Same H H' → H' p = some (.tup (vIs (strip ns))) → Qk (.ref p) H'
abbrev sc_lstripLN : List Str := ["_law_symbols", "_law_size", "_law_k"]
theorem sc_lstripL : FnScope sc_lstripLN ["_law_symbols"] (defScope s_law_strip) := ⟨rfl, rfl, rfl, by decide +kernel, rfl, by decide +kernel, by decide +kernel⟩
theorem ok_lstripL {f : Addr} {fd : FuncData} (F : FnP K d_law_strip f fd) (T : Tx K mg) : FnOk P w K mg base CX0 1 f fd ["_law_symbols"] spStrip := by
  refine F.ok sc_lstripL (fun vs H Q E h => ?_) (fun cdv A outer s H vs Q E hr h => ?_)
  · obtain ⟨a, ns, rfl, _⟩ := h
    rfl
  · obtain ⟨a, ns, rfl, ha, hl, k⟩ := h
    refine ⟨_, PSs.nox (pss_cons (ps_set (i := 1) sc_lstripL.nd rfl (Or.inl rfl) (pe_callB call_len_seq (by rfl) T.f_len PySem.boot_len (pa_cons (pv 0) pa_nil)))
      (pss_cons (ps_for PassesOwn.never (by rfl) (pi_range1 (by rfl) T.f_range (pa_cons (pe_callB call_len_seq (by rfl) T.f_len PySem.boot_len (pa_cons (pv 0) pa_nil)) pa_nil)) (pg_name (i := 2) sc_lstripL.nd rfl (Or.inl rfl)) (pss_one (ps_if (PW.pt (pw_and (pt_cmpR op_gt (pv 1) pe_int (nomark _)) (pw_and1 (pt_cmpR op_eq (pe_ix ix_list (pv 0) (pe_op op_sub (pv 1) pe_int) (fun _ _ => rfl)) pe_int (nomark _))))) (pss_one (ps_set (i := 1) sc_lstripL.nd rfl (Or.inl rfl) (pe_op op_sub (pv 1) pe_int))) pss_nil)))
      (pss_one (ps_ret (pe_callTy call_tuple_of (by rfl) T.f_tuple (by decide +kernel) (pa_cons (pe_slice sl_list (pv 0) po_none (po_some (pv 1))) pa_nil)))))), ?_⟩
    refine ⟨_, rfl, a, _, rfl, .inl (SqL.of ha), ?_⟩
    refine gN (σ' := [some (.ref a), some (vI ns.length), none]) (by rw [vIs_len]; rfl) ?_
    refine ⟨_, rfl, a, _, rfl, .inl (SqL.of ha), ns.length, (by rw [vIs_len]), by omega, by omega, ?_⟩
    refine for_rangeN (n := ns.length) (fun i σ H' => ∃ m o, σ = [some (.ref a), some (vI m), o] ∧ H' = H ∧ Lz ns i m) ⟨ns.length, none, rfl, rfl, Nat.le_refl _, fun j h1 h2 => by omega, .inl rfl⟩ ?_ ?_
    · rintro i σ H' hi ⟨m, o, rfl, rfl, hm⟩
      refine gN (σ' := [some (.ref a), some (vI m), some (vI i)]) rfl ?_
      refine ⟨_, rfl, _, _, rfl, rfl, _, rfl, iteB (fun h1 => ?_) fun h1 => ?_⟩
      · have hm0 : 0 < m := by have := of_decide_eq_true h1; omega
        have hml := hm.1
        refine ⟨_, rfl, _, rfl, _, _, rfl, rfl, a, _, _, _, rfl, rfl, SqL.of ha, atI_vIs (by omega) (by omega : m - 1 < ns.length), rfl, _, rfl, iteB (fun h2 => ?_) fun h2 => ?_⟩
        · have e2 : g ns (m - 1) = 0 := vI_inj (of_decide_eq_true h2)
          refine ⟨_, rfl, _, _, rfl, rfl, ?_⟩
          refine gN (σ' := [some (.ref a), some (vI (m - 1)), some (vI i)]) (by rw [← vI_eq (a := (m : Int) - 1) (b := m - 1) (by omega)]; rfl) ?_
          exact ⟨m - 1, _, rfl, rfl, hm.dec hm0 e2⟩
        · have e2 : g ns (m - 1) ≠ 0 := fun z => of_decide_eq_false h2 (by rw [z]; rfl)
          exact ⟨m, _, rfl, rfl, hm.stay (.inr e2)⟩
      · have hm0 : m = 0 := by have := of_decide_eq_false h1; omega
        exact iteF ⟨m, _, rfl, rfl, hm.stay (.inl hm0)⟩
    · rintro σ H' ⟨m, o, rfl, rfl, hm⟩
      refine ⟨_, rfl, _, rfl, _, rfl, a, _, rfl, SqL.of ha, fun p hp => ⟨p, _, rfl, .inl ⟨SqL.of upd_same, fun l hl' => k l _ ((same_new hp).trans (same_new hl')) ?_⟩⟩⟩
      rw [upd_same, cutV_take (by rw [vIs_len]; exact hm.1), hm.fin]
      unfold vIs
      rw [List.map_take]
theorem ok_lstripT {f : Addr} {fd : FuncData} (F : FnP K d_law_strip f fd) (T : Tx K mg) : FnOk P w K mg base CX0 1 f fd ["_law_symbols"] spLStripT := by
  refine F.ok sc_lstripL (fun vs H Q E h => ?_) (fun cdv A outer s H vs Q E hr h => ?_)
  · obtain ⟨a, ns, rfl, _⟩ := h
    rfl
  · obtain ⟨a, ns, rfl, ha, hl, k⟩ := h
    refine ⟨_, PSs.nox (pss_cons (ps_set (i := 1) sc_lstripL.nd rfl (Or.inl rfl) (pe_callB call_len_seq (by rfl) T.f_len PySem.boot_len (pa_cons (pv 0) pa_nil)))
      (pss_cons (ps_for PassesOwn.never (by rfl) (pi_range1 (by rfl) T.f_range (pa_cons (pe_callB call_len_seq (by rfl) T.f_len PySem.boot_len (pa_cons (pv 0) pa_nil)) pa_nil)) (pg_name (i := 2) sc_lstripL.nd rfl (Or.inl rfl)) (pss_one (ps_if (PW.pt (pw_and (pt_cmpR op_gt (pv 1) pe_int (nomark _)) (pw_and1 (pt_cmpR op_eq (pe_ix ix_tup (pv 0) (pe_op op_sub (pv 1) pe_int) (fun _ _ => rfl)) pe_int (nomark _))))) (pss_one (ps_set (i := 1) sc_lstripL.nd rfl (Or.inl rfl) (pe_op op_sub (pv 1) pe_int))) pss_nil)))
      (pss_one (ps_ret (pe_callTy call_tuple_of (by rfl) T.f_tuple (by decide +kernel) (pa_cons (pe_slice sl_tupA (pv 0) po_none (po_some (pv 1))) pa_nil)))))), ?_⟩
    refine ⟨_, rfl, a, _, rfl, .inr (SqT.of ha), ?_⟩
    refine gN (σ' := [some (.ref a), some (vI ns.length), none]) (by rw [vIs_len]; rfl) ?_
    refine ⟨_, rfl, a, _, rfl, .inr (SqT.of ha), ns.length, (by rw [vIs_len]), by omega, by omega, ?_⟩
    refine for_rangeN (n := ns.length) (fun i σ H' => ∃ m o, σ = [some (.ref a), some (vI m), o] ∧ H' = H ∧ Lz ns i m) ⟨ns.length, none, rfl, rfl, Nat.le_refl _, fun j h1 h2 => by omega, .inl rfl⟩ ?_ ?_
    · rintro i σ H' hi ⟨m, o, rfl, rfl, hm⟩
      refine gN (σ' := [some (.ref a), some (vI m), some (vI i)]) rfl ?_
      refine ⟨_, rfl, _, _, rfl, rfl, _, rfl, iteB (fun h1 => ?_) fun h1 => ?_⟩
      · have hm0 : 0 < m := by have := of_decide_eq_true h1; omega
        have hml := hm.1
        refine ⟨_, rfl, _, rfl, _, _, rfl, rfl, a, _, _, _, rfl, rfl, SqT.of ha, atI_vIs (by omega) (by omega : m - 1 < ns.length), rfl, _, rfl, iteB (fun h2 => ?_) fun h2 => ?_⟩
        · have e2 : g ns (m - 1) = 0 := vI_inj (of_decide_eq_true h2)
          refine ⟨_, rfl, _, _, rfl, rfl, ?_⟩
          refine gN (σ' := [some (.ref a), some (vI (m - 1)), some (vI i)]) (by rw [← vI_eq (a := (m : Int) - 1) (b := m - 1) (by omega)]; rfl) ?_
          exact ⟨m - 1, _, rfl, rfl, hm.dec hm0 e2⟩
        · have e2 : g ns (m - 1) ≠ 0 := fun z => of_decide_eq_false h2 (by rw [z]; rfl)
          exact ⟨m, _, rfl, rfl, hm.stay (.inr e2)⟩
      · have hm0 : m = 0 := by have := of_decide_eq_false h1; omega
        exact iteF ⟨m, _, rfl, rfl, hm.stay (.inl hm0)⟩
    · rintro σ H' ⟨m, o, rfl, rfl, hm⟩
      refine ⟨_, rfl, _, rfl, _, rfl, ?_⟩
      dsimp only [tNoPart]
      refine slA (K := K) (lo := none) (hi := some (m : Int)) ha fun p H2 s2 hp => ⟨p, _, rfl, .inr ⟨SqT.of hp, k p H2 s2 ?_⟩⟩
      rw [hp, cutV_take (by rw [vIs_len]; exact hm.1), hm.fin]
      unfold vIs
      rw [List.map_take]
abbrev sc_ltableLN : List Str := ["_law_rules_here", "_law_table_here", "_law_state", "_law_symbol", "_law_written", "_law_move", "_law_following"]
theorem sc_ltableL : FnScope sc_ltableLN ["_law_rules_here"] (defScope s_law_table) := ⟨rfl, rfl, rfl, by decide +kernel, rfl, by decide +kernel, by decide +kernel⟩
def spTabL : Sp := fun vs H Qk _ => ∃ (lv : V) (rs : List Rul), vs = [lv] ∧ RulesL H lv rs ∧ (rs.map key).Nodup ∧ rs.length ≤ 5000 ∧ ∀ v' H', Same H H' → TabAt H' v' rs → Qk v' H'
theorem ok_ltableL {f : Addr} {fd : FuncData} (F : FnP K d_law_table f fd) (T : Tx K mg) : FnOk P w K mg base CX0 1 f fd ["_law_rules_here"] spTabL := by
  refine F.ok sc_ltableL (fun vs H Q E h => ?_) (fun cdv A outer s H vs Q E hr h => ?_)
  · obtain ⟨lv, rs, rfl, _⟩ := h
    rfl
  · obtain ⟨lv, rs, rfl, ⟨lp, ts, rfl, hlp, hts⟩, hnd, hlen, k⟩ := h
    have hu := hu_of hr
    refine ⟨_, PSs.nox (pss_cons (ps_set (i := 1) sc_ltableL.nd rfl (Or.inl rfl) pe_dnewT)
      (pss_cons (ps_for PassesOwn.never (by rfl) (pi_list (pv 0)) (pg_tup (by rfl) (pgs_cons (pg_name (i := 2) sc_ltableL.nd rfl (Or.inl rfl)) (pgs_cons (pg_name (i := 3) sc_ltableL.nd rfl (Or.inl rfl)) (pgs_cons (pg_name (i := 4) sc_ltableL.nd rfl (Or.inl rfl)) (pgs_cons (pg_name (i := 5) sc_ltableL.nd rfl (Or.inl rfl)) (pgs_cons (pg_name (i := 6) sc_ltableL.nd rfl (Or.inl rfl)) pgs_nil)))))) (pss_one (ps_dput hu (pv 1) (pe_tup (pa_cons (pv 2) (pa_cons (pv 3) pa_nil))) (pe_tup (pa_cons (pv 4) (pa_cons (pv 5) (pa_cons (pv 6) pa_nil)))) rfl)))
      (pss_one (ps_ret (pv 1))))), ?_⟩
    intro tp htp
    have s1 := same_new (o := .dT []) htp
    have e1 : upd H tp (.dT []) tp = some (.dT []) := upd_same
    generalize upd H tp (.dT []) = H1 at *
    refine gN (σ' := [some (.ref lp), some (.ref tp), none, none, none, none, none]) rfl ?_
    refine ⟨_, rfl, lp, rfl, ⟨_, SqL.of (s1 _ _ hlp)⟩, ?_⟩
    refine for_list (xs := ts.map V.ref) (fun i σ H' => ∃ o5 o6 o7 o8 o9, σ = [some (.ref lp), some (.ref tp), o5, o6, o7, o8, o9] ∧ Same H H' ∧ ∃ kvs, H' tp = some (.dT kvs) ∧ KvsOf H' kvs (rs.take i))
      ⟨none, none, none, none, none, rfl, s1, [], e1, .nil⟩ (fun i σ H' _ ⟨_, _, _, _, _, _, s2, _⟩ => SqL.of (s2 _ _ hlp)) ?_ ?_
    · rintro i x σ H2 hx ⟨o5, o6, o7, o8, o9, rfl, s2, kvs, htp2, hkvs⟩
      rw [List.getElem?_map] at hx
      obtain ⟨t, hti, rfl⟩ : ∃ t, ts[i]? = some t ∧ x = .ref t := by
        cases e : ts[i]? with
        | none =>
          rw [e] at hx
          cases hx
        | some t =>
          rw [e] at hx
          exact ⟨t, rfl, (Option.some.inj hx).symm⟩
      have hri : i < rs.length := by
        rw [← hts.length]
        exact (List.getElem?_eq_some_iff.mp hti).1
      obtain ⟨t', ht', hrow⟩ := hts.get (i := i) (r := rs[i]) (List.getElem?_eq_getElem hri)
      have : t' = t := by rw [hti] at ht'; exact (Option.some.inj ht').symm
      subst this
      have htk : rs.take (i + 1) = rs.take i ++ [rs[i]] := by rw [List.take_succ, List.getElem?_eq_getElem hri]; rfl
      generalize hr0 : rs[i] = r at hrow htk
      refine ⟨t', _, rfl, SqT.of (s2 _ _ hrow), rfl, _, _, rfl, _, _, rfl, _, _, rfl, _, _, rfl, _, _, rfl, rfl, ?_⟩
      have hnew : tabOf (rs.take i) r.1 r.2.1 = none := by
        cases e : tabOf (rs.take i) r.1 r.2.1 with
        | none => rfl
        | some z =>
          have hsub : ((rs.take (i + 1)).map key).Nodup := List.Sublist.nodup ((List.take_sublist _ _).map key) hnd
          rw [htk, List.map_append, List.nodup_append] at hsub
          have hm := (tab_mem hsub.1).mp e
          exact absurd rfl (hsub.2.2 (key r) (List.mem_map.mpr ⟨_, hm, rfl⟩) (key r) (List.mem_singleton.mpr rfl))
      have hval : valV kvs (kyK r.1 r.2.1) = none := by
        rcases hkvs.get r.1 r.2.1 with ⟨_, e2⟩ | ⟨x, t, e1, _⟩
        · exact e2
        · rw [hnew] at e1
          cases e1
      refine ⟨_, rfl, _, rfl, _, rfl, (by show 3 ≤ sizeLine; decide), fun t4 ht4 => ⟨_, rfl, _, rfl, _, rfl, (by show 2 ≤ sizeLine; decide), fun t5 ht5 => ?_⟩⟩
      have s5 := same_new (o := .tup (actV r.2.2)) ht4
      have e4 : upd H2 t4 (.tup (actV r.2.2)) t4 = some (.tup (actV r.2.2)) := upd_same
      have s6 := same_new (o := .tup [vI r.1, vI r.2.1]) ht5
      have e5 : upd (upd H2 t4 (.tup (actV r.2.2))) t5 (.tup [vI r.1, vI r.2.1]) t5 = some (.tup [vI r.1, vI r.2.1]) := upd_same
      have e45 := s6 _ _ e4
      have htp6 := s6 _ _ (s5 _ _ htp2)
      have hkvs6 := (hkvs.same fun b xs => s5 b (.tup xs)).same fun b xs => s6 b (.tup xs)
      have s26 := (s2.trans s5).trans s6
      show ∃ a H4', V.ref tp = .ref a ∧ DPut (upd (upd H2 t4 (.tup (actV r.2.2))) t5 (.tup [vI r.1, vI r.2.1])) a (.ref t5) (.ref t4) H4' ∧ _
      generalize upd (upd H2 t4 (.tup (actV r.2.2))) t5 (.tup [vI r.1, vI r.2.1]) = H6 at *
      have hkl : kvs.length < 50000 := by
        have h1 := hkvs.length
        have h2 := List.length_take_le i rs
        omega
      refine ⟨tp, _, rfl, .inr ⟨kvs, kyK r.1 r.2.1, t5, htp6, rfl, e5, Nat.lt_of_lt_of_le hkl (by decide), rfl⟩, _, _, _, _, _, rfl, ?_, kvs ++ [(kyK r.1 r.2.1, .ref t4)], ?_, ?_⟩
      · exact fun b o hb => by
          rw [upd_ne (ne_of_none hb htp)]
          exact s26 _ _ hb
      · rw [upd_same, putK_new _ hval]
      · rw [htk]
        have tr : ∀ (b : Addr) (xs : List V), H6 b = some (.tup xs) → upd H6 tp (.dT (putK kvs (kyK r.1 r.2.1) (.ref t4))) b = some (.tup xs) := fun b xs hb => by
          rw [upd_ne (ne_of hb htp6 fun z => nomatch z)]
          exact hb
        exact Paired.snoc (hkvs6.same tr) ⟨rfl, t4, rfl, tr _ _ e45⟩
    · rintro σ H2 ⟨o5, o6, o7, o8, o9, rfl, s2, kvs, htp2, hkvs⟩
      rw [show (ts.map V.ref).length = rs.length by rw [List.length_map]; exact hts.length, List.take_length] at hkvs
      exact ⟨_, rfl, k _ H2 s2 ⟨tp, kvs, rfl, htp2, hkvs⟩⟩
def spTabT : Sp := fun vs H Qk _ => ∃ (lv : V) (rs : List Rul), vs = [lv] ∧ RulesT H lv rs ∧ (rs.map key).Nodup ∧ rs.length ≤ 5000 ∧ ∀ v' H', Same H H' → TabAt H' v' rs → Qk v' H'
theorem ok_ltableT {f : Addr} {fd : FuncData} (F : FnP K d_law_table f fd) (T : Tx K mg) : FnOk P w K mg base CX0 1 f fd ["_law_rules_here"] spTabT := by
  refine F.ok sc_ltableL (fun vs H Q E h => ?_) (fun cdv A outer s H vs Q E hr h => ?_)
  · obtain ⟨lv, rs, rfl, _⟩ := h
    rfl
  · obtain ⟨lv, rs, rfl, ⟨lp, ts, rfl, hlp, hts⟩, hnd, hlen, k⟩ := h
    have hu := hu_of hr
    refine ⟨_, PSs.nox (pss_cons (ps_set (i := 1) sc_ltableL.nd rfl (Or.inl rfl) pe_dnewT)
      (pss_cons (ps_for PassesOwn.never (by rfl) (pi_tup (pv 0)) (pg_tup (by rfl) (pgs_cons (pg_name (i := 2) sc_ltableL.nd rfl (Or.inl rfl)) (pgs_cons (pg_name (i := 3) sc_ltableL.nd rfl (Or.inl rfl)) (pgs_cons (pg_name (i := 4) sc_ltableL.nd rfl (Or.inl rfl)) (pgs_cons (pg_name (i := 5) sc_ltableL.nd rfl (Or.inl rfl)) (pgs_cons (pg_name (i := 6) sc_ltableL.nd rfl (Or.inl rfl)) pgs_nil)))))) (pss_one (ps_dput hu (pv 1) (pe_tup (pa_cons (pv 2) (pa_cons (pv 3) pa_nil))) (pe_tup (pa_cons (pv 4) (pa_cons (pv 5) (pa_cons (pv 6) pa_nil)))) rfl)))
      (pss_one (ps_ret (pv 1))))), ?_⟩
    intro tp htp
    have s1 := same_new (o := .dT []) htp
    have e1 : upd H tp (.dT []) tp = some (.dT []) := upd_same
    generalize upd H tp (.dT []) = H1 at *
    refine gN (σ' := [some (.ref lp), some (.ref tp), none, none, none, none, none]) rfl ?_
    refine ⟨_, rfl, lp, rfl, ⟨_, SqT.of (s1 _ _ hlp)⟩, ?_⟩
    refine for_tup (xs := ts.map V.ref) (fun i σ H' => ∃ o5 o6 o7 o8 o9, σ = [some (.ref lp), some (.ref tp), o5, o6, o7, o8, o9] ∧ Same H H' ∧ ∃ kvs, H' tp = some (.dT kvs) ∧ KvsOf H' kvs (rs.take i))
      ⟨none, none, none, none, none, rfl, s1, [], e1, .nil⟩ (fun i σ H' _ ⟨_, _, _, _, _, _, s2, _⟩ => SqT.of (s2 _ _ hlp)) ?_ ?_
    · rintro i x σ H2 hx ⟨o5, o6, o7, o8, o9, rfl, s2, kvs, htp2, hkvs⟩
      rw [List.getElem?_map] at hx
      obtain ⟨t, hti, rfl⟩ : ∃ t, ts[i]? = some t ∧ x = .ref t := by
        cases e : ts[i]? with
        | none =>
          rw [e] at hx
          cases hx
        | some t =>
          rw [e] at hx
          exact ⟨t, rfl, (Option.some.inj hx).symm⟩
      have hri : i < rs.length := by
        rw [← hts.length]
        exact (List.getElem?_eq_some_iff.mp hti).1
      obtain ⟨t', ht', hrow⟩ := hts.get (i := i) (r := rs[i]) (List.getElem?_eq_getElem hri)
      have : t' = t := by rw [hti] at ht'; exact (Option.some.inj ht').symm
      subst this
      have htk : rs.take (i + 1) = rs.take i ++ [rs[i]] := by rw [List.take_succ, List.getElem?_eq_getElem hri]; rfl
      generalize hr0 : rs[i] = r at hrow htk
      refine ⟨t', _, rfl, SqT.of (s2 _ _ hrow), rfl, _, _, rfl, _, _, rfl, _, _, rfl, _, _, rfl, _, _, rfl, rfl, ?_⟩
      have hnew : tabOf (rs.take i) r.1 r.2.1 = none := by
        cases e : tabOf (rs.take i) r.1 r.2.1 with
        | none => rfl
        | some z =>
          have hsub : ((rs.take (i + 1)).map key).Nodup := List.Sublist.nodup ((List.take_sublist _ _).map key) hnd
          rw [htk, List.map_append, List.nodup_append] at hsub
          have hm := (tab_mem hsub.1).mp e
          exact absurd rfl (hsub.2.2 (key r) (List.mem_map.mpr ⟨_, hm, rfl⟩) (key r) (List.mem_singleton.mpr rfl))
      have hval : valV kvs (kyK r.1 r.2.1) = none := by
        rcases hkvs.get r.1 r.2.1 with ⟨_, e2⟩ | ⟨x, t, e1, _⟩
        · exact e2
        · rw [hnew] at e1
          cases e1
      refine ⟨_, rfl, _, rfl, _, rfl, (by show 3 ≤ sizeLine; decide), fun t4 ht4 => ⟨_, rfl, _, rfl, _, rfl, (by show 2 ≤ sizeLine; decide), fun t5 ht5 => ?_⟩⟩
      have s5 := same_new (o := .tup (actV r.2.2)) ht4
      have e4 : upd H2 t4 (.tup (actV r.2.2)) t4 = some (.tup (actV r.2.2)) := upd_same
      have s6 := same_new (o := .tup [vI r.1, vI r.2.1]) ht5
      have e5 : upd (upd H2 t4 (.tup (actV r.2.2))) t5 (.tup [vI r.1, vI r.2.1]) t5 = some (.tup [vI r.1, vI r.2.1]) := upd_same
      have e45 := s6 _ _ e4
      have htp6 := s6 _ _ (s5 _ _ htp2)
      have hkvs6 := (hkvs.same fun b xs => s5 b (.tup xs)).same fun b xs => s6 b (.tup xs)
      have s26 := (s2.trans s5).trans s6
      show ∃ a H4', V.ref tp = .ref a ∧ DPut (upd (upd H2 t4 (.tup (actV r.2.2))) t5 (.tup [vI r.1, vI r.2.1])) a (.ref t5) (.ref t4) H4' ∧ _
      generalize upd (upd H2 t4 (.tup (actV r.2.2))) t5 (.tup [vI r.1, vI r.2.1]) = H6 at *
      have hkl : kvs.length < 50000 := by
        have h1 := hkvs.length
        have h2 := List.length_take_le i rs
        omega
      refine ⟨tp, _, rfl, .inr ⟨kvs, kyK r.1 r.2.1, t5, htp6, rfl, e5, Nat.lt_of_lt_of_le hkl (by decide), rfl⟩, _, _, _, _, _, rfl, ?_, kvs ++ [(kyK r.1 r.2.1, .ref t4)], ?_, ?_⟩
      · exact fun b o hb => by
          rw [upd_ne (ne_of_none hb htp)]
          exact s26 _ _ hb
      · rw [upd_same, putK_new _ hval]
      · rw [htk]
        have tr : ∀ (b : Addr) (xs : List V), H6 b = some (.tup xs) → upd H6 tp (.dT (putK kvs (kyK r.1 r.2.1) (.ref t4))) b = some (.tup xs) := fun b xs hb => by
          rw [upd_ne (ne_of hb htp6 fun z => nomatch z)]
          exact hb
        exact Paired.snoc (hkvs6.same tr) ⟨rfl, t4, rfl, tr _ _ e45⟩
    · rintro σ H2 ⟨o5, o6, o7, o8, o9, rfl, s2, kvs, htp2, hkvs⟩
      rw [show (ts.map V.ref).length = rs.length by rw [List.length_map]; exact hts.length, List.take_length] at hkvs
      exact ⟨_, rfl, k _ H2 s2 ⟨tp, kvs, rfl, htp2, hkvs⟩⟩
def spLStep : Sp := fun vs H Qk _ => ∃ (tv cv : V) (rs : List Rul) (c : Cfg), vs = [tv, cv] ∧ TabAt H tv rs ∧ CfgAt H cv c ∧ c.l.length + c.r.length ≤ 90000 ∧ Can c.l ∧ Can c.r ∧
  (stepC (tabOf rs) c = none → ∀ H', Same H H' → Qk .non H') ∧ (∀ c' v' H', stepC (tabOf rs) c = some c' → Same H H' → CfgAt H' v' c' → Qk v' H')
abbrev sc_ltstepN : List Str := ["_law_table_here", "_law_here", "_law_state", "_law_left", "_law_symbol", "_law_right", "_law_written", "_law_move", "_law_following"]
theorem sc_ltstep : FnScope sc_ltstepN ["_law_table_here", "_law_here"] (defScope s_law_turing_step) := ⟨rfl, rfl, rfl, by decide +kernel, rfl, by decide +kernel, by decide +kernel⟩
theorem ok_ltstep {f : Addr} {fd : FuncData} (F : FnP K d_law_turing_step f fd) (T : Tx K mg) (G_law_strip : Cal P w K mg base 1 "_law_strip" ["_law_symbols"] spLStripT) : FnOk P w K mg base CX0 2 f fd ["_law_table_here", "_law_here"] spLStep := by
  refine F.ok sc_ltstep (fun vs H Q E h => ?_) (fun cdv A outer s H vs Q E hr h => ?_)
  · obtain ⟨tv, cv, rs, c, rfl, _⟩ := h
    rfl
  · obtain ⟨tv, cv, rs, c, rfl, ⟨tp, kvs, rfl, htp, hk⟩, cf, hl, cl, cr, k0, k1⟩ := h
    have hu := hu_of hr
    obtain ⟨cp, lv, rv, rfl, hcp, ⟨lp, rfl, hlp⟩, ⟨rp, rfl, hrp⟩⟩ := cf
    refine ⟨_, PSs.nox (pss_cons (ps_asg (pv 1) (pg_tup (by rfl) (pgs_cons (pg_name (i := 2) sc_ltstep.nd rfl (Or.inl rfl)) (pgs_cons (pg_name (i := 3) sc_ltstep.nd rfl (Or.inl rfl)) (pgs_cons (pg_name (i := 4) sc_ltstep.nd rfl (Or.inl rfl)) (pgs_cons (pg_name (i := 5) sc_ltstep.nd rfl (Or.inl rfl)) pgs_nil))))))
      (pss_cons (ps_if (pt_cmp (pc_dnotin hu (pe_tup (pa_cons (pv 2) (pa_cons (pv 4) pa_nil))) (pv 0))) (pss_one (ps_ret pe_non)) pss_nil)
      (pss_cons (ps_asg (pe_dget hu (pv 0) (pe_tup (pa_cons (pv 2) (pa_cons (pv 4) pa_nil))) (fun _ _ => rfl)) (pg_tup (by rfl) (pgs_cons (pg_name (i := 6) sc_ltstep.nd rfl (Or.inl rfl)) (pgs_cons (pg_name (i := 7) sc_ltstep.nd rfl (Or.inl rfl)) (pgs_cons (pg_name (i := 8) sc_ltstep.nd rfl (Or.inl rfl)) pgs_nil)))))
      (pss_cons (ps_if (pt_cmpR op_eq (pv 7) pe_int (nomark _)) (pss_one (ps_ret (pe_tup (pa_cons (pv 8) (pa_cons (pv 3) (pa_cons (pv 6) (pa_cons (pv 5) pa_nil))))))) pss_nil)
      (pss_cons (ps_if (pt_cmpR op_eq (pv 7) pe_int (nomark _)) (pss_one (ps_ret (pe_tup (pa_cons (pv 8) (pa_cons (pe_callC G_law_strip (hr.mono (by decide)) (by rfl) (pa_cons (pe_op op_catA (pe_tup (pa_cons (pv 6) pa_nil)) (pv 3)) pa_nil)) (pa_cons (pe_ix ix_tup (pe_op op_catA (pv 5) (pe_tup (pa_cons pe_int pa_nil))) pe_int (fun _ _ => rfl)) (pa_cons (pe_slice sl_tupA (pv 5) (po_some pe_int) po_none) pa_nil))))))) pss_nil)
      (pss_one (ps_ret (pe_tup (pa_cons (pv 8) (pa_cons (pe_slice sl_tupA (pv 3) (po_some pe_int) po_none) (pa_cons (pe_ix ix_tup (pe_op op_catA (pv 3) (pe_tup (pa_cons pe_int pa_nil))) pe_int (fun _ _ => rfl)) (pa_cons (pe_callC G_law_strip (hr.mono (by decide)) (by rfl) (pa_cons (pe_op op_catA (pe_tup (pa_cons (pv 6) pa_nil)) (pv 5)) pa_nil)) pa_nil)))))))))))), ?_⟩
    refine ⟨_, rfl, cp, _, rfl, SqT.of hcp, rfl, _, _, rfl, _, _, rfl, _, _, rfl, _, _, rfl, rfl, ?_⟩
    refine ⟨_, rfl, _, rfl, (by show 2 ≤ sizeLine; decide), fun t ht => ⟨_, rfl, tp, valV kvs (kyK c.st c.h), rfl, DGet.t (same_new ht _ _ htp) upd_same, _, rfl, ?_⟩⟩
    have s1 := same_new (o := .tup [vI c.st, vI c.h]) ht
    have k0' : stepC (tabOf rs) c = none → ∀ H', Same (upd H t (.tup [vI c.st, vI c.h])) H' → Q .non H' := fun e H' s' => k0 e H' (s1.trans s')
    have k1' : ∀ c' v' H', stepC (tabOf rs) c = some c' → Same (upd H t (.tup [vI c.st, vI c.h])) H' → CfgAt H' v' c' → Q v' H' := fun c' v' H' e s' => k1 c' v' H' e (s1.trans s')
    have htp1 := s1 _ _ htp
    have hk1 := hk.same fun b xs => s1 b (.tup xs)
    have hlp1 := s1 _ _ hlp
    have hrp1 := s1 _ _ hrp
    generalize upd H t (.tup [vI c.st, vI c.h]) = H1 at *
    rcases hk1.get c.st c.h with ⟨e1, e2⟩ | ⟨⟨wr, m, q⟩, t2, e1, e2, e3⟩
    · rw [e2]
      exact iteT (k0' (by unfold stepC; rw [e1]) _ (Same.refl _))
    · rw [e2]
      refine iteF ?_
      refine ⟨_, rfl, _, rfl, _, rfl, (by show 2 ≤ sizeLine; decide), fun t3 ht3 => ⟨tp, .ref t2, rfl, (by rw [← e2]; exact DGet.t (same_new ht3 _ _ htp1) upd_same), ?_⟩⟩
      have s2 := same_new (o := .tup [vI c.st, vI c.h]) ht3
      have k2 : ∀ c' v' H', stepC (tabOf rs) c = some c' → Same (upd H1 t3 (.tup [vI c.st, vI c.h])) H' → CfgAt H' v' c' → Q v' H' := fun c' v' H' e s' => k1' c' v' H' e (s2.trans s')
      have hlp2 := s2 _ _ hlp1
      have hrp2 := s2 _ _ hrp1
      have e32 := s2 _ _ e3
      generalize upd H1 t3 (.tup [vI c.st, vI c.h]) = H2 at *
      refine ⟨t2, _, rfl, SqT.of e32, rfl, _, _, rfl, _, _, rfl, _, _, rfl, rfl, ?_⟩
      refine norm_st (σ' := [some (.ref tp), some (.ref cp), some (vI c.st), some (.ref lp), some (vI c.h), some (.ref rp), some (vI wr), some (.int m), some (vI q)]) rfl ?_
      refine ⟨_, rfl, rfl, _, rfl, iteB (fun h1 => ?_) fun h1 => ?_⟩
      · have hm : m = 0 := by
          have := of_decide_eq_true h1
          injection this
        refine ⟨_, rfl, _, rfl, _, rfl, _, rfl, (by show 4 ≤ sizeLine; decide), fun t4 ht4 => ?_⟩
        have s4 := same_new (o := .tup [vI q, .ref lp, vI wr, .ref rp]) ht4
        exact k2 ⟨q, c.l, wr, c.r⟩ _ _ (by unfold stepC; rw [e1]; exact if_pos hm) s4 ⟨t4, .ref lp, .ref rp, rfl, upd_same, ⟨lp, rfl, s4 _ _ hlp2⟩, ⟨rp, rfl, s4 _ _ hrp2⟩⟩
      · have hm : m ≠ 0 := fun z => of_decide_eq_false h1 (by rw [z])
        refine ⟨_, rfl, rfl, _, rfl, iteB (fun h2 => ?_) fun h2 => ?_⟩
        · have hm1 : m = 1 := by
            have := of_decide_eq_true h2
            injection this
          refine ⟨_, rfl, _, rfl, (by show 1 ≤ sizeLine; decide), fun t4 ht4 => ⟨_, rfl, ?_⟩⟩
          have s4 := same_new (o := .tup [vI wr]) ht4
          refine catA (K := K) (xs := [vI wr]) (ys := vIs c.l) upd_same (s4 _ _ hlp2) (by rw [vIs_len]; show 1 + _ ≤ _; omega) fun p5 H5 s5 hp5 => ?_
          refine ⟨p5, wr :: c.l, rfl, hp5, by rw [List.length_cons]; omega, fun p6 H6 s6 hp6 => ?_⟩
          rw [push_strip cl] at hp6
          have s46 := s4.trans (s5.trans s6)
          refine ⟨_, rfl, (by show 1 ≤ sizeLine; decide), fun t7 ht7 => ?_⟩
          have s7 := same_new (o := .tup [.int 0]) ht7
          refine catA (K := K) (xs := vIs c.r) (ys := [.int 0]) (s7 _ _ (s46 _ _ hrp2)) upd_same (by rw [vIs_len]; show _ + 1 ≤ _; omega) fun p8 H8 s8 hp8 => ?_
          have s68 := s7.trans s8
          refine ⟨p8, _, _, _, rfl, rfl, SqT.of hp8, head_at c.r, _, rfl, _, rfl, ?_⟩
          dsimp only [tNoPart]
          refine slA (K := K) (lo := some 1) (hi := none) (s68 _ _ (s46 _ _ hrp2)) fun p9 H9 s9 hp9 => ⟨(by show 4 ≤ sizeLine; decide), fun t10 ht10 => ?_⟩
          have s10 := same_new (o := .tup [vI q, .ref p6, vI (c.r.headD 0), .ref p9]) ht10
          refine k2 ⟨q, push wr c.l, c.r.headD 0, c.r.tail⟩ _ _ (by unfold stepC; rw [e1]; exact (if_neg hm).trans (if_pos hm1)) ((s46.trans s68).trans (s9.trans s10)) ⟨t10, .ref p6, .ref p9, rfl, upd_same, ⟨p6, rfl, (s68.trans (s9.trans s10)) _ _ hp6⟩, ⟨p9, rfl, s10 _ _ ?_⟩⟩
          rw [hp9, show cutV (vIs c.r) (some 1) none = (vIs c.r).drop 1 from cutV_drop (n := 1)]
          unfold vIs
          rw [List.drop_one, List.map_tail]
        · have hm1 : m ≠ 1 := fun z => of_decide_eq_false h2 (by rw [z])
          refine ⟨_, rfl, _, rfl, _, rfl, ?_⟩
          dsimp only [tNoPart]
          refine slA (K := K) (lo := some 1) (hi := none) hlp2 fun p9 H9 s9 hp9 => ?_
          refine ⟨_, rfl, (by show 1 ≤ sizeLine; decide), fun t7 ht7 => ?_⟩
          have s7 := same_new (o := .tup [.int 0]) ht7
          refine catA (K := K) (xs := vIs c.l) (ys := [.int 0]) (s7 _ _ (s9 _ _ hlp2)) upd_same (by rw [vIs_len]; show _ + 1 ≤ _; omega) fun p8 H8 s8 hp8 => ?_
          refine ⟨p8, _, _, _, rfl, rfl, SqT.of hp8, head_at c.l, ?_⟩
          refine ⟨_, rfl, (by show 1 ≤ sizeLine; decide), fun t4 ht4 => ⟨_, rfl, ?_⟩⟩
          have s4 := same_new (o := .tup [vI wr]) ht4
          have s98 := s9.trans (s7.trans (s8.trans s4))
          refine catA (K := K) (xs := [vI wr]) (ys := vIs c.r) upd_same (s98 _ _ hrp2) (by rw [vIs_len]; show 1 + _ ≤ _; omega) fun p5 H5 s5 hp5 => ?_
          refine ⟨p5, wr :: c.r, rfl, hp5, by rw [List.length_cons]; omega, fun p6 H6 s6 hp6 => ?_⟩
          rw [push_strip cr] at hp6
          refine ⟨(by show 4 ≤ sizeLine; decide), fun t10 ht10 => ?_⟩
          have s10 := same_new (o := .tup [vI q, .ref p9, vI (c.l.headD 0), .ref p6]) ht10
          refine k2 ⟨q, c.l.tail, c.l.headD 0, push wr c.r⟩ _ _ (by unfold stepC; rw [e1]; exact (if_neg hm).trans (if_neg hm1)) (s98.trans (s5.trans (s6.trans s10))) ⟨t10, .ref p9, .ref p6, rfl, upd_same, ⟨p9, rfl, (s7.trans (s8.trans (s4.trans (s5.trans (s6.trans s10))))) _ _ ?_⟩, ⟨p6, rfl, s10 _ _ hp6⟩⟩
          rw [hp9, show cutV (vIs c.l) (some 1) none = (vIs c.l).drop 1 from cutV_drop (n := 1)]
          unfold vIs
          rw [List.drop_one, List.map_tail]
end
end TH
/-! The law's drawn rules and tapes. -/
namespace TH
open PySem PySem.Spec PyProof.Rows L2 UM
section
variable {P : Program} {w : World} {K : PySem.W.Frag} {mg : Str → Option Value} {base : Heap}
def RL (n k i j : Nat) (rs : List Rul) : Prop := (∀ r ∈ rs, okR n k r ∧ (r.1 < i ∨ (r.1 = i ∧ r.2.1 < j))) ∧ (rs.map key).Nodup ∧ rs.length ≤ i * k + j
theorem RL.add {n k i j : Nat} {rs : List Rul} (h : RL n k i j rs) {r : Rul} (ho : okR n k r) (h1 : r.1 = i) (h2 : r.2.1 = j) : RL n k i (j + 1) (rs ++ [r]) := by
  obtain ⟨a, b, c⟩ := h
  refine ⟨fun x hx => ?_, ?_, by rw [List.length_append]; show _ + 1 ≤ _; omega⟩
  · rcases List.mem_append.mp hx with q | q
    · obtain ⟨u, v⟩ := a x q
      exact ⟨u, by omega⟩
    · rw [List.mem_singleton.mp q]
      exact ⟨ho, by omega⟩
  · rw [List.map_append, List.nodup_append]
    refine ⟨b, List.nodup_cons.mpr ⟨List.not_mem_nil, List.nodup_nil⟩, fun x hx y hy => ?_⟩
    obtain ⟨z, hz, rfl⟩ := List.mem_map.mp hx
    rw [List.mem_singleton.mp hy]
    intro e
    obtain ⟨_, v⟩ := a z hz
    have e : ((z.1, z.2.1) : Nat × Nat) = (r.1, r.2.1) := e
    injection e with e1 e2
    omega
theorem RL.skip {n k i j : Nat} {rs : List Rul} (h : RL n k i j rs) : RL n k i (j + 1) rs := ⟨fun x hx => let ⟨u, v⟩ := h.1 x hx; ⟨u, by omega⟩, h.2.1, by have := h.2.2; omega⟩
theorem RL.next {n k i : Nat} {rs : List Rul} (h : RL n k i k rs) : RL n k (i + 1) 0 rs := ⟨fun x hx => let ⟨u, v⟩ := h.1 x hx; ⟨u, by omega⟩, h.2.1, by have := h.2.2; rw [Nat.succ_mul]; omega⟩
def spLRules : Sp := fun vs H Qk _ => ∃ (a : Addr) (ds : List Nat) (n k : Nat), vs = [.ref a, vI n, vI k] ∧ H a = some (.lst (vIs ds)) ∧ 0 < ds.length ∧ ds.length ≤ 1000 ∧ 1 ≤ n ∧ n ≤ 20 ∧ 1 ≤ k ∧ k ≤ 20 ∧
  ∀ rs v' H', Same H H' → RulesL H' v' rs → (∀ r ∈ rs, okR n k r) → (rs.map key).Nodup → rs.length ≤ 400 → Qk v' H'
abbrev sc_lrulesN : List Str := ["_law_draws_here", "_law_states", "_law_symbols", "_law_rules_here", "_law_state", "_law_symbol", "_law_draw"]
theorem sc_lrules : FnScope sc_lrulesN ["_law_draws_here", "_law_states", "_law_symbols"] (defScope s_law_rules) := ⟨rfl, rfl, rfl, by decide +kernel, rfl, by decide +kernel, by decide +kernel⟩
theorem ok_lrules {f : Addr} {fd : FuncData} (F : FnP K d_law_rules f fd) (T : Tx K mg) : FnOk P w K mg base CX0 1 f fd ["_law_draws_here", "_law_states", "_law_symbols"] spLRules := by
  refine F.ok sc_lrules (fun vs H Q E h => ?_) (fun cdv A outer s H vs Q E hr h => ?_)
  · obtain ⟨a, ds, n, k, rfl, _⟩ := h
    rfl
  · obtain ⟨a, ds, n, kk, rfl, ha, hd0, hd1, hn1, hn2, hk1, hk2, k⟩ := h
    refine ⟨_, PSs.nox (pss_cons (ps_set (i := 3) sc_lrules.nd rfl (Or.inl rfl) (pe_lst pa_nil))
      (pss_cons (ps_for PassesOwn.never (by rfl) (pi_range1 (by rfl) T.f_range (pa_cons (pv 1) pa_nil)) (pg_name (i := 4) sc_lrules.nd rfl (Or.inl rfl)) (pss_one (ps_for PassesOwn.never (by rfl) (pi_range1 (by rfl) T.f_range (pa_cons (pv 2) pa_nil)) (pg_name (i := 5) sc_lrules.nd rfl (Or.inl rfl)) (pss_cons (ps_set (i := 6) sc_lrules.nd rfl (Or.inl rfl) (pe_ix ix_list (pv 0) (pe_op op_mod (pe_op op_add (pe_op op_mul (pv 4) (pv 2)) (pv 5)) (pe_callB call_len_seq (by rfl) T.f_len PySem.boot_len (pa_cons (pv 0) pa_nil))) (fun _ _ => rfl)))
      (pss_one (ps_if (pt_cmpR op_gt (pe_op op_mod (pv 6) pe_int) pe_int (nomark _)) (pss_one (ps_expr (pe_bm PySem.F.plainAttrs_list PySem.F.slot_list_append PySem.F.type_list_append mt_append (pv 3) (pa_cons (pe_tup (pa_cons (pv 4) (pa_cons (pv 5) (pa_cons (pe_op op_mod (pe_op op_fdiv (pv 6) pe_int) (pv 2)) (pa_cons (pe_op op_sub (pe_op op_mod (pe_op op_fdiv (pv 6) pe_int) pe_int) pe_int) (pa_cons (pe_op op_mod (pe_op op_fdiv (pv 6) pe_int) (pv 1)) pa_nil)))))) pa_nil)))) pss_nil))))))
      (pss_one (ps_ret (pv 3))))), ?_⟩
    refine ⟨by decide, fun rp hrp => ?_⟩
    have s1 := same_new (o := .lst []) hrp
    have e1 : upd H rp (.lst []) rp = some (.lst []) := upd_same
    generalize upd H rp (.lst []) = H1 at *
    refine gN (σ' := [some (.ref a), some (vI n), some (vI kk), some (.ref rp), none, none, none]) rfl ?_
    refine ⟨_, rfl, n, rfl, by omega, by omega, ?_⟩
    refine for_rangeN (n := n) (fun i σ H' => ∃ o4 o5 o6, σ = [some (.ref a), some (vI n), some (vI kk), some (.ref rp), o4, o5, o6] ∧ Same H H' ∧ ∃ ts rs, H' rp = some (.lst (ts.map V.ref)) ∧ RulesOf H' ts rs ∧ RL n kk i 0 rs)
      ⟨none, none, none, rfl, s1, [], [], e1, .nil, ⟨fun r hr => absurd hr List.not_mem_nil, List.nodup_nil, Nat.zero_le _⟩⟩ ?_ ?_
    · rintro i σ H2 hi ⟨o4, o5, o6, rfl, s2, ts, rs, e2, hru, hRL⟩
      refine gN (σ' := [some (.ref a), some (vI n), some (vI kk), some (.ref rp), some (vI i), o5, o6]) rfl ?_
      refine ⟨_, rfl, kk, rfl, by omega, by omega, ?_⟩
      refine for_rangeN (n := kk) (fun j σ H' => ∃ o5 o6, σ = [some (.ref a), some (vI n), some (vI kk), some (.ref rp), some (vI i), o5, o6] ∧ Same H H' ∧ ∃ ts rs, H' rp = some (.lst (ts.map V.ref)) ∧ RulesOf H' ts rs ∧ RL n kk i j rs)
        ⟨o5, o6, rfl, s2, ts, rs, e2, hru, hRL⟩ ?_ ?_
      · rintro j σ H3 hj ⟨o5, o6, rfl, s3, ts, rs, e3, hru, hRL⟩
        refine gN (σ' := [some (.ref a), some (vI n), some (vI kk), some (.ref rp), some (vI i), some (vI j), o6]) rfl ?_
        have hix : (i * kk + j) % ds.length < ds.length := Nat.mod_lt _ hd0
        refine ⟨_, rfl, _, rfl, _, rfl, _, _, rfl, rfl, .inl ⟨by omega, by omega⟩, _, rfl, _, _, rfl, rfl, _, rfl, a, _, rfl, .inl (SqL.of (s3 _ _ ha)), _, _, rfl, rfl, (by rw [vIs_len]; show (0 : Int) < _; omega), a, _, _, _, rfl, rfl, SqL.of (s3 _ _ ha), atI_vIs (i := (i * kk + j) % ds.length) (by rw [vIs_len]; rfl) hix, ?_⟩
        generalize g ds ((i * kk + j) % ds.length) = d
        refine gN (σ' := [some (.ref a), some (vI n), some (vI kk), some (.ref rp), some (vI i), some (vI j), some (vI d)]) rfl ?_
        refine ⟨_, rfl, _, _, rfl, rfl, (by decide : (0 : Int) < 6), _, _, rfl, rfl, _, rfl, iteB (fun h1 => ?_) fun h1 => ?_⟩
        · refine ⟨_, rfl, .inl ⟨rfl, _, SqL.of e3⟩, ?_⟩
          refine ⟨_, rfl, _, rfl, ?_⟩
          refine ⟨_, rfl, (d : Int), 6, rfl, rfl, ⟨by decide, by decide⟩, _, rfl, _, _, rfl, rfl, (by show (0 : Int) < _; omega), ?_⟩
          refine ⟨_, rfl, (d : Int), 60, rfl, rfl, ⟨by decide, by decide⟩, _, _, rfl, rfl, (by decide : (0 : Int) < 3), _, _, rfl, rfl, ?_⟩
          refine ⟨_, rfl, (d : Int), 180, rfl, rfl, ⟨by decide, by decide⟩, _, rfl, _, _, rfl, rfl, (by show (0 : Int) < _; omega), (by show 5 ≤ sizeLine; decide), fun t ht => ?_⟩
          dsimp only [tNil]
          have s4 := same_new (o := .tup (rowV (i, j, d / 6 % kk, (d : Int) / 60 % 3 - 1, d / 180 % n))) ht
          have et : upd H3 t (.tup (rowV (i, j, d / 6 % kk, (d : Int) / 60 % 3 - 1, d / 180 % n))) t = some (.tup (rowV (i, j, d / 6 % kk, (d : Int) / 60 % 3 - 1, d / 180 % n))) := upd_same
          have e4 := s4 _ _ e3
          have hru4 := hru.same fun b xs => s4 b (.tup xs)
          have s34 := s3.trans s4
          show rAppend (.ref rp) [.ref t] (upd H3 t (.tup (rowV (i, j, d / 6 % kk, (d : Int) / 60 % 3 - 1, d / 180 % n)))) _
          generalize upd H3 t (.tup (rowV (i, j, d / 6 % kk, (d : Int) / 60 % 3 - 1, d / 180 % n))) = H4 at *
          refine ⟨rp, _, _, rfl, rfl, e4, ?_, _, _, rfl, fun b o hb => ?_, ts ++ [t], rs ++ [(i, j, d / 6 % kk, (d : Int) / 60 % 3 - 1, d / 180 % n)], ?_, ?_, hRL.add ⟨hi, hj, Nat.mod_lt _ (by omega), ?_, Nat.mod_lt _ (by omega)⟩ rfl rfl⟩
          · rw [List.length_map, hru.length]
            have h1 := hRL.2.2
            have h2 : i * kk ≤ 20 * 20 := Nat.mul_le_mul (by omega) hk2
            exact Nat.lt_of_le_of_lt (by omega : _ ≤ 1000) (by decide)
          · rw [upd_ne (ne_of_none hb hrp)]
            exact s34 _ _ hb
          · rw [upd_same, List.map_append]
            rfl
          · have tr : ∀ (b : Addr) (xs : List V), H4 b = some (.tup xs) → upd H4 rp (.lst (ts.map V.ref ++ [.ref t])) b = some (.tup xs) := fun b xs hb => by
              rw [upd_ne (ne_of hb e4 fun z => nomatch z)]
              exact hb
            exact Paired.snoc (hru4.same tr) (tr _ _ et)
          · show (d : Int) / 60 % 3 - 1 = 0 ∨ (d : Int) / 60 % 3 - 1 = 1 ∨ (d : Int) / 60 % 3 - 1 = -1
            omega
        · exact ⟨_, _, rfl, s3, ts, rs, e3, hru, hRL.skip⟩
      · rintro σ H3 ⟨o5, o6, rfl, s3, ts, rs, e3, hru, hRL⟩
        exact ⟨_, _, _, rfl, s3, ts, rs, e3, hru, hRL.next⟩
    · rintro σ H2 ⟨o4, o5, o6, rfl, s2, ts, rs, e2, hru, hRL⟩
      refine ⟨_, rfl, k rs _ H2 s2 ⟨rp, ts, rfl, e2, hru⟩ (fun r hr => (hRL.1 r hr).1) hRL.2.1 ?_⟩
      have h1 := hRL.2.2
      have h2 : n * kk ≤ 20 * 20 := Nat.mul_le_mul hn2 hk2
      omega
/-- [f(k) for k in range(m)] -/
theorem q_lcR {σ : L2.St} {H : Hp} {j : Nat} {ta : TA} {te : TE} {Qk : VK} (f : Nat → Nat) (m : Nat) (hm : m ≤ 1000) (hta : ∀ Z : List V → Hp → Prop, Z [vI m] H → ta σ H Z) (hw : ∀ x, wipe ((wipe σ [j]).set j (some x)) [j] = wipe σ [j])
    (ht : ∀ i H' Z, i < m → Same H H' → Z (vI (f i)) H' → te ((wipe σ [j]).set j (some (vI i))) H' Z) (k : ∀ D H', Same H H' → H' D = some (.lst (vIs ((List.range m).map f))) → Qk (.ref D) H') : tLc (iRng1 ta) (gName j) tYes te [j] σ H Qk := by
  refine hta _ ⟨m, rfl, by omega, by omega, fun D hD => lc_range (lo := 0) (n := m) (fun i H' => Same H H' ∧ H' D = some (.lst (vIs ((List.range i).map f)))) ⟨same_new hD, upd_same⟩ ?_ ?_⟩
  · rintro i H1 hi ⟨s1, e1⟩
    refine ⟨hw _, ?_⟩
    dsimp only [tYes]
    rw [if_pos rfl, Int.zero_add]
    refine ht i H1 _ hi s1 ⟨_, e1, ?_, fun b o hb => ?_, ?_⟩
    · rw [vIs_len, List.length_map, List.length_range]
      exact Nat.lt_of_lt_of_le hi (Nat.le_trans hm (by decide))
    · rw [upd_ne (ne_of_none hb hD)]
      exact s1 _ _ hb
    · rw [upd_same, List.range_succ, List.map_append, ← vIs_snoc]
      rfl
  · rintro H1 ⟨s1, e1⟩
    exact k D H1 s1 e1
theorem g_all {l : List Nat} (h : ∀ x ∈ l, x < 2) (i : Nat) : g l i < 2 := by
  by_cases hi : i < l.length
  · exact h _ (g_mem hi)
  · rw [g_ge (by omega)]
    decide
theorem strip_len (l : List Nat) : (strip l).length ≤ l.length := by
  induction l with
  | nil => exact Nat.le_refl _
  | cons a l ih =>
    show (push a (strip l)).length ≤ _
    have := wide_push a (strip l)
    rw [List.length_cons]
    omega
def spLTape : Sp := fun vs H Qk _ => ∃ (a : Addr) (ds : List Nat) (n : Nat), vs = [.ref a, vI n, vI 2, vI 3] ∧ H a = some (.lst (vIs ds)) ∧ ds.length = 14 ∧ 1 ≤ n ∧
  ∀ c v' H', Same H H' → CfgAt H' v' c → COk n c → c.l.length ≤ 3 → c.r.length ≤ 3 → Qk v' H'
abbrev sc_ltapeN : List Str := ["_law_draws_here", "_law_states", "_law_symbols", "_law_most", "_law_left", "_law_right", "_law_k"]
theorem sc_ltape : FnScope sc_ltapeN ["_law_draws_here", "_law_states", "_law_symbols", "_law_most"] (defScope s_law_tape) := ⟨rfl, rfl, rfl, by decide +kernel, rfl, by decide +kernel, by decide +kernel⟩
theorem ok_ltape {f : Addr} {fd : FuncData} (F : FnP K d_law_tape f fd) (T : Tx K mg) (G_law_strip : Cal P w K mg base 1 "_law_strip" ["_law_symbols"] spStrip) : FnOk P w K mg base CX0 2 f fd ["_law_draws_here", "_law_states", "_law_symbols", "_law_most"] spLTape := by
  refine F.ok sc_ltape (fun vs H Q E h => ?_) (fun cdv A outer s H vs Q E hr h => ?_)
  · obtain ⟨a, ds, n, rfl, _⟩ := h
    rfl
  · obtain ⟨a, ds, n, rfl, ha, hd, hn, k⟩ := h
    refine ⟨_, PSs.nox (pss_cons (ps_setLc (i := 4) (own := [("_law_k", 6)]) (g := gName 6) (tt := tYes) (by rfl) sc_ltape.nd rfl rfl (sw_true rfl rfl rfl (by decide +kernel)) (pi_range1 (by rfl) T.f_range (pa_cons (pe_op op_mod (pe_ix ix_list (pv 0) pe_int (fun _ _ => rfl)) (pe_op op_add (pv 3) pe_int)) pa_nil)) (blkOk_by (own := [("_law_k", 6)]) (N := sc_ltapeN) (sc := defScope s_law_tape) (by decide +kernel)) (fun _ _ _ _ _ => pg_name (i := 6) sc_ltape.nd rfl (Or.inl rfl)) (fun _ _ _ _ _ => pts_nil) (fun _ _ _ _ _ => (pe_op op_mod (pe_ix (show IxR _ (rIxL K) from ix_list) (pv 0) (pe_op op_add pe_int (pv 6)) (fun _ _ => rfl)) (pv 2))))
      (pss_cons (ps_setLc (i := 5) (own := [("_law_k", 6)]) (g := gName 6) (tt := tYes) (by rfl) sc_ltape.nd rfl rfl (sw_true rfl rfl rfl (by decide +kernel)) (pi_range1 (by rfl) T.f_range (pa_cons (pe_op op_mod (pe_op op_fdiv (pe_ix ix_list (pv 0) pe_int (fun _ _ => rfl)) pe_int) (pe_op op_add (pv 3) pe_int)) pa_nil)) (blkOk_by (own := [("_law_k", 6)]) (N := sc_ltapeN) (sc := defScope s_law_tape) (by decide +kernel)) (fun _ _ _ _ _ => pg_name (i := 6) sc_ltape.nd rfl (Or.inl rfl)) (fun _ _ _ _ _ => pts_nil) (fun _ _ _ _ _ => (pe_op op_mod (pe_ix (show IxR _ (rIxL K) from ix_list) (pv 0) (pe_op op_add pe_int (pv 6)) (fun _ _ => rfl)) (pv 2))))
      (pss_one (ps_ret (pe_tup (pa_cons (pe_op op_mod (pe_op op_fdiv (pe_ix ix_list (pv 0) pe_int (fun _ _ => rfl)) pe_int) (pv 1)) (pa_cons (pe_callC G_law_strip (hr.mono (by decide)) (by rfl) (pa_cons (pv 4) pa_nil)) (pa_cons (pe_op op_mod (pe_ix ix_list (pv 0) pe_int (fun _ _ => rfl)) (pv 2)) (pa_cons (pe_callC G_law_strip (hr.mono (by decide)) (by rfl) (pa_cons (pv 5) pa_nil)) pa_nil))))))))), ?_⟩
    refine seq_asg ?_
    refine q_lcR (σ := [some (.ref a), some (vI n), some (vI 2), some (vI 3), none, none, none]) (fun i => g ds (1 + i) % 2) (g ds 0 % 4) (by omega) (fun Z z => ⟨_, rfl, _, _, _, _, rfl, rfl, SqL.of ha, atI_vIs (i := 0) rfl (by omega), _, rfl, _, _, rfl, rfl, _, _, rfl, rfl, (by decide : (0 : Int) < 4), z⟩) (fun _ => rfl)
      (fun i H' Z hi s' z => ⟨_, rfl, _, rfl, _, _, rfl, rfl, a, _, _, _, rfl, rfl, SqL.of (s' _ _ ha), atI_vIs (i := 1 + i) (by omega) (by omega), _, rfl, _, _, rfl, rfl, (by decide : (0 : Int) < 2), z⟩) fun lq H1 s1 e1 => ?_
    refine gN (σ' := [some (.ref a), some (vI n), some (vI 2), some (vI 3), some (.ref lq), none, none]) rfl ?_
    refine seq_asg ?_
    refine q_lcR (σ := [some (.ref a), some (vI n), some (vI 2), some (vI 3), some (.ref lq), none, none]) (fun i => g ds (7 + i) % 2) (g ds 0 / 8 % 4) (by omega) (fun Z z => ⟨_, rfl, _, _, _, _, rfl, rfl, SqL.of (s1 _ _ ha), atI_vIs (i := 0) rfl (by omega), ((g ds 0 : Nat) : Int), 8, rfl, rfl, ⟨by decide, by decide⟩, _, rfl, _, _, rfl, rfl, _, _, rfl, rfl, (by decide : (0 : Int) < 4), z⟩) (fun _ => rfl)
      (fun i H' Z hi s' z => ⟨_, rfl, _, rfl, _, _, rfl, rfl, a, _, _, _, rfl, rfl, SqL.of (s' _ _ (s1 _ _ ha)), atI_vIs (i := 7 + i) (by omega) (by omega), _, rfl, _, _, rfl, rfl, (by decide : (0 : Int) < 2), z⟩) fun rq H2 s2 e2 => ?_
    refine gN (σ' := [some (.ref a), some (vI n), some (vI 2), some (vI 3), some (.ref lq), some (.ref rq), none]) rfl ?_
    have s12 := s1.trans s2
    refine ⟨_, rfl, _, _, _, _, rfl, rfl, SqL.of (s12 _ _ ha), atI_vIs (i := 0) rfl (by omega), ((g ds 0 : Nat) : Int), 64, rfl, rfl, ⟨by decide, by decide⟩, _, rfl, _, _, rfl, rfl, (by show (0 : Int) < _; omega), ?_⟩
    refine ⟨_, rfl, lq, _, rfl, s2 _ _ e1, by rw [List.length_map, List.length_range]; omega, fun p3 H3 s3 e3 => ?_⟩
    have s13 := s12.trans s3
    refine ⟨_, rfl, _, _, _, _, rfl, rfl, SqL.of (s13 _ _ ha), atI_vIs (i := 13) rfl (by omega), _, rfl, _, _, rfl, rfl, (by decide : (0 : Int) < 2), ?_⟩
    refine ⟨_, rfl, rq, _, rfl, s3 _ _ e2, by rw [List.length_map, List.length_range]; omega, fun p4 H4 s4 e4 => ?_⟩
    refine ⟨(by show 4 ≤ sizeLine; decide), fun t ht => ?_⟩
    have s5 := same_new (o := .tup [vI (g ds 0 / 64 % n), .ref p3, vI (g ds 13 % 2), .ref p4]) ht
    have lt2 : ∀ (f : Nat → Nat) (m : Nat), (∀ i, f i < 2) → ∀ i, g (strip ((List.range m).map f)) i < 2 := fun f m hf i => by
      rw [g_strip]
      refine g_all (fun x hx => ?_) i
      obtain ⟨y, _, rfl⟩ := List.mem_map.mp hx
      exact hf y
    have ln : ∀ (f : Nat → Nat) (m : Nat), m ≤ 3 → (strip ((List.range m).map f)).length ≤ 3 := fun f m hm => by
      have := strip_len ((List.range m).map f)
      rw [List.length_map, List.length_range] at this
      omega
    exact k ⟨g ds 0 / 64 % n, strip ((List.range (g ds 0 % 4)).map fun i => g ds (1 + i) % 2), g ds 13 % 2, strip ((List.range (g ds 0 / 8 % 4)).map fun i => g ds (7 + i) % 2)⟩ (.ref t) _ (s13.trans (s4.trans s5)) ⟨t, .ref p3, .ref p4, rfl, upd_same, ⟨p3, rfl, s5 _ _ (s4 _ _ e3)⟩, ⟨p4, rfl, s5 _ _ e4⟩⟩
      ⟨Nat.mod_lt _ hn, Nat.mod_lt _ (by decide), lt2 _ _ fun i => Nat.mod_lt _ (by decide), lt2 _ _ fun i => Nat.mod_lt _ (by decide), can_strip _, can_strip _⟩ (ln _ _ (by omega)) (ln _ _ (by omega))
end
end TH
/-! The law's likeness. -/
namespace TH
open PySem PySem.Spec PyProof.Rows L2 UM
section
variable {P : Program} {w : World} {K : PySem.W.Frag} {mg : Str → Option Value} {base : Heap}
def Lk : Nat → Hp → V → V → Prop
  | 0, _, _, _ => False
  | n + 1, H, x, y => (∃ i : Int, x = .int i ∧ y = .int i) ∨ ∃ (a b : Addr) (xs ys : List V), x = .ref a ∧ y = .ref b ∧ H a = some (.tup xs) ∧ H b = some (.tup ys) ∧ xs.length = ys.length ∧ ys.length ≤ 100000 ∧ ∀ (i : Nat) (x y : V), xs[i]? = some x → ys[i]? = some y → Lk n H x y
theorem Lk.same {H H' : Hp} (s : Same H H') : ∀ {n : Nat} {x y : V}, Lk n H x y → Lk n H' x y
  | 0, _, _, h => h
  | n + 1, _, _, .inl h => .inl h
  | n + 1, _, _, .inr ⟨a, b, xs, ys, e1, e2, h1, h2, h3, h4, h5⟩ => .inr ⟨a, b, xs, ys, e1, e2, s _ _ h1, s _ _ h2, h3, h4, fun i x y q1 q2 => Lk.same s (h5 i x y q1 q2)⟩
theorem lk_int {n : Nat} {H : Hp} {i : Int} : Lk (n + 1) H (.int i) (.int i) := .inl ⟨i, rfl, rfl⟩
theorem lk_tup {n : Nat} {H : Hp} {v v' : V} {ns : List Nat} (h : TupI H v ns) (h' : TupI H v' ns) (hl : ns.length ≤ 100000) : Lk (n + 2) H v v' := by
  obtain ⟨a, rfl, ha⟩ := h
  obtain ⟨b, rfl, hb⟩ := h'
  refine .inr ⟨a, b, _, _, rfl, rfl, ha, hb, rfl, by rw [vIs_len]; exact hl, fun i x y q1 q2 => ?_⟩
  rw [q1] at q2
  cases q2
  obtain ⟨m, _, rfl⟩ := vIs_get q1
  exact lk_int
theorem lk_cfg {H : Hp} {v v' : V} {c : Cfg} (h : CfgAt H v c) (h' : CfgAt H v' c) (hl : c.l.length + c.r.length ≤ 100000) : Lk 3 H v v' := by
  obtain ⟨a, l1, r1, rfl, ha, p1, p2⟩ := h
  obtain ⟨b, l2, r2, rfl, hb, q1, q2⟩ := h'
  refine .inr ⟨a, b, _, _, rfl, rfl, ha, hb, rfl, (by show 4 ≤ 100000; decide), fun i x y e1 e2 => ?_⟩
  match i, e1, e2 with
  | 0, e1, e2 => cases e1; cases e2; exact lk_int
  | 1, e1, e2 => cases e1; cases e2; exact lk_tup p1 q1 (by omega)
  | 2, e1, e2 => cases e1; cases e2; exact lk_int
  | 3, e1, e2 => cases e1; cases e2; exact lk_tup p2 q2 (by omega)
  | i + 4, e1, e2 => cases e1
def spLk (n : Nat) : Sp := fun vs H Qk _ => ∃ x y, vs = [x, y] ∧ Lk n H x y ∧ ∀ H', Same H H' → Qk (.bl true) H'
abbrev sc_llikeN : List Str := ["_law_actual", "_law_due", "_law_k"]
theorem sc_llike : FnScope sc_llikeN ["_law_actual", "_law_due"] (defScope s_law_like) := ⟨rfl, rfl, rfl, by decide +kernel, rfl, by decide +kernel, by decide +kernel⟩
theorem ok_like0 {f : Addr} {fd : FuncData} (F : FnP K d_law_like f fd) : FnOk P w K mg base CX0 1 f fd ["_law_actual", "_law_due"] (spLk 0) := by
  refine F.ok sc_llike (fun vs H Q E h => ?_) (fun cdv A outer s H vs Q E hr h => ?_)
  · obtain ⟨x, y, rfl, h, _⟩ := h
    exact False.elim h
  · obtain ⟨x, y, rfl, h, _⟩ := h
    exact False.elim h
theorem ok_like {k n : Nat} {f : Addr} {fd : FuncData} (F : FnP K d_law_like f fd) (T : Tx K mg) (G_law_like : Cal P w K mg base k "_law_like" ["_law_actual", "_law_due"] (spLk n)) : FnOk P w K mg base CX0 (k + 1) f fd ["_law_actual", "_law_due"] (spLk (n + 1)) := by
  refine F.ok sc_llike (fun vs H Q E h => ?_) (fun cdv A outer s H vs Q E hr h => ?_)
  · obtain ⟨x, y, rfl, _⟩ := h
    rfl
  · obtain ⟨x, y, rfl, hx, k⟩ := h
    refine ⟨_, PSs.nox (pss_cons (ps_if (pt_cmpR op_isN (pv 1) pe_non (nomark _)) (pss_one (ps_ret (pe_cmpR op_isN (pv 0) pe_non (nomark _)))) pss_nil)
      (pss_cons (ps_if (pt_val (pe_callB call_isi (by rfl) T.f_isinstance (by decide +kernel) (pa_cons (pv 1) (pa_cons (pe_ty (n := "bool") rfl T.f_bool (by decide +kernel)) pa_nil)))) (pss_one (ps_ret (pe_and (pe_callB call_isi (by rfl) T.f_isinstance (by decide +kernel) (pa_cons (pv 0) (pa_cons (pe_ty (n := "bool") rfl T.f_bool (by decide +kernel)) pa_nil))) (pe_one (pe_cmpR op_eq (pv 0) (pv 1) (nomark _)))))) pss_nil)
      (pss_cons (ps_if (pt_val (pe_callB call_isi (by rfl) T.f_isinstance (by decide +kernel) (pa_cons (pv 1) (pa_cons (pe_ty (n := "str") rfl T.f_str (by decide +kernel)) pa_nil)))) (pss_one (ps_ret (pe_and (pe_callB call_isi (by rfl) T.f_isinstance (by decide +kernel) (pa_cons (pv 0) (pa_cons (pe_ty (n := "str") rfl T.f_str (by decide +kernel)) pa_nil))) (pe_one (pe_cmpR op_eq (pv 0) (pv 1) (nomark _)))))) pss_nil)
      (pss_cons (ps_if (pt_val (pe_callB call_isi (by rfl) T.f_isinstance (by decide +kernel) (pa_cons (pv 1) (pa_cons (pe_ty (n := "int") rfl T.f_int (by decide +kernel)) pa_nil)))) (pss_one (ps_ret (pe_and (pe_callB call_isi (by rfl) T.f_isinstance (by decide +kernel) (pa_cons (pv 0) (pa_cons (pe_ty (n := "int") rfl T.f_int (by decide +kernel)) pa_nil))) (pe_and (pe_not (pe_callB call_isi (by rfl) T.f_isinstance (by decide +kernel) (pa_cons (pv 0) (pa_cons (pe_ty (n := "bool") rfl T.f_bool (by decide +kernel)) pa_nil)))) (pe_one (pe_cmpR op_eq (pv 0) (pv 1) (nomark _))))))) pss_nil)
      (pss_cons (ps_if (PW.pt (pw_or (pt_cmpR op_ne (pe_callB call_isi (by rfl) T.f_isinstance (by decide +kernel) (pa_cons (pv 1) (pa_cons (pe_ty (n := "list") rfl T.f_list (by decide +kernel)) pa_nil))) (pe_callB call_isi (by rfl) T.f_isinstance (by decide +kernel) (pa_cons (pv 0) (pa_cons (pe_ty (n := "list") rfl T.f_list (by decide +kernel)) pa_nil))) (nomark _)) (pw_or1 (pt_cmpR op_ne (pe_callB call_isi (by rfl) T.f_isinstance (by decide +kernel) (pa_cons (pv 1) (pa_cons (pe_ty (n := "tuple") rfl T.f_tuple (by decide +kernel)) pa_nil))) (pe_callB call_isi (by rfl) T.f_isinstance (by decide +kernel) (pa_cons (pv 0) (pa_cons (pe_ty (n := "tuple") rfl T.f_tuple (by decide +kernel)) pa_nil))) (nomark _))))) (pss_one (ps_ret pe_bl)) pss_nil)
      (pss_cons (ps_if (pt_cmpR op_ne (pe_callB call_len_seq (by rfl) T.f_len PySem.boot_len (pa_cons (pv 0) pa_nil)) (pe_callB call_len_seq (by rfl) T.f_len PySem.boot_len (pa_cons (pv 1) pa_nil)) (nomark _)) (pss_one (ps_ret pe_bl)) pss_nil)
      (pss_one (ps_ret (pe_callB (cr_all rfl) (by rfl) T.f_all (by decide +kernel) (pa_cons (pe_lc (own := [("_law_k", 2)]) (g := gName 2) (tt := tYes) (by rfl) sc_llike.nd (pi_range1 (by rfl) T.f_range (pa_cons (pe_callB call_len_seq (by rfl) T.f_len PySem.boot_len (pa_cons (pv 1) pa_nil)) pa_nil)) (blkOk_by (own := [("_law_k", 2)]) (N := sc_llikeN) (sc := defScope s_law_like) (by decide +kernel)) (fun _ _ _ _ _ => pg_name (i := 2) sc_llike.nd rfl (Or.inl rfl)) (fun _ _ _ _ _ => pts_nil) (fun _ _ _ _ _ => (pe_callC G_law_like (hr.mono (Nat.le_refl _)) (by rfl) (pa_cons (pe_ix (show IxR _ (rIxT K) from ix_tup) (pv 0) (pv 2) (fun _ _ => rfl)) (pa_cons (pe_ix (show IxR _ (rIxT K) from ix_tup) (pv 1) (pv 2) (fun _ _ => rfl)) pa_nil))))) pa_nil)))))))))), ?_⟩
    rcases hx with ⟨i, rfl, rfl⟩ | ⟨a, b, xs, ys, rfl, rfl, ha, hb, hl, hl2, hel⟩
    · refine ⟨_, rfl, rfl, _, rfl, iteF ?_⟩
      refine ⟨_, rfl, .int i, .ty "bool", .type "int", .type "bool", false, rfl, .ty _, .base (.int i), kit_ty rfl, _, rfl, iteF ?_⟩
      refine ⟨_, rfl, .int i, .ty "str", .type "int", .type "str", false, rfl, .ty _, .base (.int i), kit_ty rfl, _, rfl, iteF ?_⟩
      refine ⟨_, rfl, .int i, .ty "int", .type "int", .type "int", true, rfl, .ty _, .base (.int i), kit_ty rfl, _, rfl, iteT ?_⟩
      refine ⟨_, rfl, .int i, .ty "int", .type "int", .type "int", true, rfl, .ty _, .base (.int i), kit_ty rfl, _, rfl, iteT ?_⟩
      refine ⟨_, rfl, .int i, .ty "bool", .type "int", .type "bool", false, rfl, .ty _, .base (.int i), kit_ty rfl, _, rfl, _, rfl, iteT ⟨_, rfl, _, rfl, rfl, ?_⟩⟩
      have := k H (Same.refl H)
      rw [← decide_eq_true (rfl : V.int i = V.int i)] at this
      exact this
    · refine ⟨_, rfl, rfl, _, rfl, iteF ?_⟩
      refine ⟨_, rfl, .ref b, .ty "bool", .type "tuple", .type "bool", false, rfl, .ty _, .base (.tup hb), kit_ty rfl, _, rfl, iteF ?_⟩
      refine ⟨_, rfl, .ref b, .ty "str", .type "tuple", .type "str", false, rfl, .ty _, .base (.tup hb), kit_ty rfl, _, rfl, iteF ?_⟩
      refine ⟨_, rfl, .ref b, .ty "int", .type "tuple", .type "int", false, rfl, .ty _, .base (.tup hb), kit_ty rfl, _, rfl, iteF ?_⟩
      refine ⟨_, rfl, .ref b, .ty "list", .type "tuple", .type "list", false, rfl, .ty _, .base (.tup hb), kit_ty rfl, _, rfl, .ref a, .ty "list", .type "tuple", .type "list", false, rfl, .ty _, .base (.tup ha), kit_ty rfl, rfl, _, rfl, iteF ?_⟩
      refine ⟨_, rfl, .ref b, .ty "tuple", .type "tuple", .type "tuple", true, rfl, .ty _, .base (.tup hb), kit_ty rfl, _, rfl, .ref a, .ty "tuple", .type "tuple", .type "tuple", true, rfl, .ty _, .base (.tup ha), kit_ty rfl, rfl, _, rfl, iteF ?_⟩
      refine ⟨_, rfl, a, _, rfl, .inr (SqT.of ha), _, rfl, b, _, rfl, .inr (SqT.of hb), rfl, _, rfl, ?_⟩
      rw [hl, decide_eq_true (rfl : V.int (ys.length : Int) = V.int (ys.length : Int))]
      refine iteF ?_
      refine ⟨_, rfl, b, _, rfl, .inr (SqT.of hb), ys.length, rfl, by omega, by omega, fun D hD => ?_⟩
      refine lc_range (lo := 0) (n := ys.length) (fun i H' => Same H H' ∧ H' D = some (.lst ((List.replicate i true).map V.bl))) ⟨same_new hD, upd_same⟩ ?_ ?_
      · rintro i H1 hi ⟨s1, e1⟩
        refine ⟨rfl, ?_⟩
        dsimp only [tYes]
        rw [if_pos rfl, Int.zero_add]
        have ex : xs[i]? = some xs[i] := List.getElem?_eq_getElem (by omega)
        have ey : ys[i]? = some ys[i] := List.getElem?_eq_getElem hi
        refine ⟨_, rfl, _, rfl, a, _, _, _, rfl, rfl, SqT.of (s1 _ _ ha), atI_nat ex, _, rfl, _, rfl, b, _, _, _, rfl, rfl, SqT.of (s1 _ _ hb), atI_nat ey, ?_⟩
        refine ⟨xs[i], ys[i], rfl, (hel i _ _ ex ey).same s1, fun H2 s2 => ⟨_, s2 _ _ e1, ?_, fun c o hc => ?_, ?_⟩⟩
        · rw [List.length_map, List.length_replicate]
          exact Nat.lt_of_lt_of_le hi (Nat.le_trans hl2 (by decide))
        · rw [upd_ne (ne_of_none hc hD)]
          exact s2 _ _ (s1 _ _ hc)
        · rw [upd_same, List.replicate_succ', List.map_append]
          rfl
      · rintro H1 ⟨s1, e1⟩
        refine ⟨D, _, rfl, SqL.of e1, ?_⟩
        rw [show (List.replicate ys.length true).all id = true by rw [List.all_eq_true]; intro x hx; exact (List.mem_replicate.mp hx).2]
        exact k H1 s1
end
end TH
/-! The law's runners. -/
namespace TH
open PySem PySem.Spec PyProof.Rows L2 UM
section
variable {P : Program} {w : World} {K : PySem.W.Frag} {mg : Str → Option Value} {base : Heap}
def RunAt (H : Hp) (v : V) (M : Tab) : Prop := ∃ q tv rs, v = .ref q ∧ H q = some (.lst [.str "turing", tv]) ∧ TabAt H tv rs ∧ tabOf rs = M
theorem RunAt.same {H H' : Hp} {v : V} {M : Tab} (h : RunAt H v M) (s : Same H H') : RunAt H' v M := let ⟨q, tv, rs, e, a, b, c⟩ := h; ⟨q, tv, rs, e, s _ _ a, b.same s, c⟩
def runN (M : Tab) : Nat → Cfg → Option Cfg
  | 0, c => some c
  | n + 1, c => (stepC M c).bind (runN M n)
theorem runN_path {M : Tab} {c c' : Cfg} {n : Nat} (h : CPath M c n c') : runN M n c = some c' := by
  induction h with
  | refl => rfl
  | step _ e _ ih =>
    show (stepC M _).bind _ = _
    rw [e]
    exact ih
theorem can_step {M : Tab} {c c' : Cfg} (h : stepC M c = some c') (cl : Can c.l) (cr : Can c.r) : Can c'.l ∧ Can c'.r := by
  unfold stepC at h
  split at h
  · cases h
  · split at h
    · cases h
      exact ⟨cl, cr⟩
    · split at h
      · cases h
        exact ⟨can_push cl, can_tail cr⟩
      · cases h
        exact ⟨can_tail cl, can_push cr⟩
def spRunner (K : PySem.W.Frag) : Sp := fun vs H Qk _ => ∃ (v : V) (n k : Nat) (rs : List Rul), vs = [v] ∧ TurAt K H v n k rs ∧ ∀ v' H', Same H H' → RunAt H' v' (tabOf rs) → Qk v' H'
abbrev sc_lrunnerN : List Str := ["_law_target"]
theorem sc_lrunner : FnScope sc_lrunnerN ["_law_target"] (defScope s_law_runner) := ⟨rfl, rfl, rfl, by decide +kernel, rfl, by decide +kernel, by decide +kernel⟩
theorem ok_lrunner {f : Addr} {fd : FuncData} (F : FnP K d_law_runner f fd) (T : Tx K mg) (G_law_table : Cal P w K mg base 1 "_law_table" ["_law_rules_here"] spTabT) : FnOk P w K mg base CX0 2 f fd ["_law_target"] (spRunner K) := by
  refine F.ok sc_lrunner (fun vs H Q E h => ?_) (fun cdv A outer s H vs Q E hr h => ?_)
  · obtain ⟨v, n, k, rs, rfl, _⟩ := h
    rfl
  · obtain ⟨v, n, kk, rs, rfl, tur, k⟩ := h
    obtain ⟨p, dx, tb, ru, rs', rfl, hp, htb, hru, hpm, hnd, hlen⟩ := id tur
    refine ⟨_, PSs.nox (pss_cons (ps_if (pt_val (pe_callB call_isi (by rfl) T.f_isinstance (by decide +kernel) (pa_cons (pv 0) (pa_cons (pe_gref rfl T.g_Turing) pa_nil)))) (pss_one (ps_ret (pe_lst (pa_cons pe_str (pa_cons (pe_callC G_law_table (hr.mono (by decide)) (by rfl) (pa_cons (pe_fld (pv 0) rfl) pa_nil)) pa_nil))))) pss_nil)
      pss_never), ?_⟩
    refine ⟨_, rfl, V.ref p, V.ref (CT K), .ref (CT K), .ref (CT K), true, rfl, .own _, T.ty hp, T.isT, true, rfl, iteT ?_⟩
    refine ⟨_, rfl, p, CT K, dx, _, _, rfl, hp, T.c_Turing, T.n_Turing_rules, fT_rules, ?_⟩
    refine ⟨ru, rs', rfl, hru, (hpm.map key).nodup_iff.mpr hnd, by rw [hpm.length_eq]; exact hlen, fun tv H1 s1 ht => ⟨(by show 2 ≤ sizeLine; decide), fun q hq => ?_⟩⟩
    have s2 := same_new (o := .lst [.str "turing", tv]) hq
    exact k (.ref q) _ (s1.trans s2) ⟨q, tv, rs', rfl, upd_same, ht.same s2, (tab_perm hnd hpm.symm).symm⟩
def spGo : Sp := fun vs H Qk _ => ∃ (rv cv : V) (M : Tab) (c : Cfg), vs = [rv, cv] ∧ RunAt H rv M ∧ CfgAt H cv c ∧ wide c ≤ 90000 ∧ Can c.l ∧ Can c.r ∧
  (stepC M c = none → ∀ H', Same H H' → Qk .non H') ∧ (∀ c' v' H', stepC M c = some c' → Same H H' → CfgAt H' v' c' → Qk v' H')
abbrev sc_lgoN : List Str := ["_law_runner_here", "_law_here", "_law_kind", "_law_data"]
theorem sc_lgo : FnScope sc_lgoN ["_law_runner_here", "_law_here"] (defScope s_law_go) := ⟨rfl, rfl, rfl, by decide +kernel, rfl, by decide +kernel, by decide +kernel⟩
theorem ok_lgo {f : Addr} {fd : FuncData} (F : FnP K d_law_go f fd) (T : Tx K mg) (G_law_turing_step : Cal P w K mg base 2 "_law_turing_step" ["_law_table_here", "_law_here"] spLStep) : FnOk P w K mg base CX0 3 f fd ["_law_runner_here", "_law_here"] spGo := by
  refine F.ok sc_lgo (fun vs H Q E h => ?_) (fun cdv A outer s H vs Q E hr h => ?_)
  · obtain ⟨rv, cv, M, c, rfl, _⟩ := h
    rfl
  · obtain ⟨rv, cv, M, c, rfl, ⟨q, tv, rs, rfl, hq, ht, rfl⟩, hc, hw, cl, cr, k0, k1⟩ := h
    refine ⟨_, PSs.nox (pss_cons (ps_asg (pv 0) (pg_unl (by rfl) (pgs_cons (pg_name (i := 2) sc_lgo.nd rfl (Or.inl rfl)) (pgs_cons (pg_name (i := 3) sc_lgo.nd rfl (Or.inl rfl)) pgs_nil))))
      (pss_cons (ps_if (pt_cmpR op_eq (pv 2) pe_str (nomark _)) (pss_one (ps_ret (pe_callC G_law_turing_step (hr.mono (by decide)) (by rfl) (pa_cons (pv 3) (pa_cons (pv 1) pa_nil))))) pss_nil)
      pss_never)), ?_⟩
    refine ⟨_, rfl, q, _, rfl, SqL.of hq, rfl, _, _, rfl, _, _, rfl, rfl, ?_⟩
    refine ⟨_, rfl, rfl, _, rfl, ?_⟩
    rw [decide_eq_true (rfl : V.str "turing" = V.str "turing")]
    refine iteT ?_
    exact ⟨_, rfl, _, rfl, tv, cv, rs, c, rfl, ht, hc, hw, cl, cr, k0, k1⟩
def spMany : Sp := fun vs H Qk _ => ∃ (rv cv : V) (M : Tab) (c c' : Cfg) (m : Nat), vs = [rv, cv, vI m] ∧ RunAt H rv M ∧ CfgAt H cv c ∧ wide c + m ≤ 90000 ∧ Can c.l ∧ Can c.r ∧ runN M m c = some c' ∧ ∀ v' H', Same H H' → CfgAt H' v' c' → Qk v' H'
abbrev sc_lmanyN : List Str := ["_law_runner_here", "_law_here", "_law_count", "_law_k"]
theorem sc_lmany : FnScope sc_lmanyN ["_law_runner_here", "_law_here", "_law_count"] (defScope s_law_many) := ⟨rfl, rfl, rfl, by decide +kernel, rfl, by decide +kernel, by decide +kernel⟩
theorem ok_lmany {f : Addr} {fd : FuncData} (F : FnP K d_law_many f fd) (T : Tx K mg) (G_law_go : Cal P w K mg base 3 "_law_go" ["_law_runner_here", "_law_here"] spGo) : FnOk P w K mg base CX0 4 f fd ["_law_runner_here", "_law_here", "_law_count"] spMany := by
  refine F.ok sc_lmany (fun vs H Q E h => ?_) (fun cdv A outer s H vs Q E hr h => ?_)
  · obtain ⟨rv, cv, M, c, c', m, rfl, _⟩ := h
    rfl
  · obtain ⟨rv, cv, M, c, c', m, rfl, hR, hC, hw, cl, cr, hrun, k⟩ := h
    refine ⟨_, PSs.nox (pss_cons (ps_for PassesOwn.never (by rfl) (pi_range1 (by rfl) T.f_range (pa_cons (pv 2) pa_nil)) (pg_name (i := 3) sc_lmany.nd rfl (Or.inl rfl)) (pss_one (ps_if (pt_cmpR op_notN (pv 1) pe_non (nomark _)) (pss_one (ps_set (i := 1) sc_lmany.nd rfl (Or.inl rfl) (pe_callC G_law_go (hr.mono (by decide)) (by rfl) (pa_cons (pv 0) (pa_cons (pv 1) pa_nil))))) pss_nil)))
      (pss_one (ps_ret (pv 1)))), ?_⟩
    refine ⟨_, rfl, m, rfl, by omega, by omega, ?_⟩
    refine for_rangeN (n := m) (fun i σ H' => ∃ cv z o, σ = [some rv, some cv, some (vI m), o] ∧ Same H H' ∧ CfgAt H' cv z ∧ runN M (m - i) z = some c' ∧ Can z.l ∧ Can z.r ∧ wide z ≤ wide c + i)
      ⟨cv, c, none, rfl, Same.refl H, hC, hrun, cl, cr, Nat.le_refl _⟩ ?_ ?_
    · rintro i σ H1 hi ⟨cv, z, o, rfl, s1, hz, hrz, zl, zr, hwz⟩
      refine gN (σ' := [some rv, some cv, some (vI m), some (vI i)]) rfl ?_
      obtain ⟨cp, lv, rv2, rfl, hh, _⟩ := id hz
      refine ⟨_, rfl, rfl, _, rfl, iteT ?_⟩
      rw [show m - i = (m - (i + 1)) + 1 by omega] at hrz
      refine ⟨_, rfl, _, rfl, rv, .ref cp, M, z, rfl, hR.same s1, hz, by omega, zl, zr, fun e => ?_, fun z' v' H2 e s2 hz' => ?_⟩
      · have : (stepC M z).bind (runN M (m - (i + 1))) = some c' := hrz
        rw [e] at this
        cases this
      · have h2 : (stepC M z).bind (runN M (m - (i + 1))) = some c' := hrz
        rw [e] at h2
        have h3 := wide_step e
        obtain ⟨a1, a2⟩ := can_step e zl zr
        exact ⟨v', z', _, rfl, s1.trans s2, hz', h2, a1, a2, by omega⟩
    · rintro σ H1 ⟨cv, z, o, rfl, s1, hz, hrz, zl, zr, hwz⟩
      rw [Nat.sub_self] at hrz
      cases hrz
      exact ⟨_, rfl, k cv H1 s1 hz⟩
end
end TH
/-! The law's drawn machine. -/
namespace TH
open PySem PySem.Spec PyProof.Rows L2 UM
section
variable {P : Program} {w : World} {K : PySem.W.Frag} {mg : Str → Option Value} {base : Heap}
def spDrawn (K : PySem.W.Frag) : Sp := fun vs H Qk _ => ∃ (c : Int) (n : Nat), vs = [.int c, vI n, vI 2] ∧ 0 ≤ c ∧ 1 ≤ n ∧ n ≤ 4 ∧
  ∀ q mv sv rv rs H', Same H H' → H' q = some (.lst [mv, sv, rv]) → TurAt K H' mv n 2 rs → RunAt H' sv (tabOf rs) → (∀ r ∈ rs, okR n 2 r) → Qk (.ref q) H'
abbrev sc_ldrawnN : List Str := ["_law_cell_here", "_law_states", "_law_symbols", "_law_draws_here", "_law_rules_here"]
theorem sc_ldrawn : FnScope sc_ldrawnN ["_law_cell_here", "_law_states", "_law_symbols"] (defScope s_law_drawn_turing) := ⟨rfl, rfl, rfl, by decide +kernel, rfl, by decide +kernel, by decide +kernel⟩
theorem ok_ldrawn {f : Addr} {fd : FuncData} (F : FnP K d_law_drawn_turing f fd) (T : Tx K mg) (G_law_draws : Cal P w K mg base 1 "_law_draws" ["_law_cell_here", "_law_count"] spDraws) (G_law_rules : Cal P w K mg base 1 "_law_rules" ["_law_draws_here", "_law_states", "_law_symbols"] spLRules)
    (G_law_table : Cal P w K mg base 1 "_law_table" ["_law_rules_here"] spTabL) (G_Turing : Mak P w K mg base 1 (CT K) "Turing" ["self", "states", "symbols", "rules"] (spTInit K)) : FnOk P w K mg base CX0 3 f fd ["_law_cell_here", "_law_states", "_law_symbols"] (spDrawn K) := by
  refine F.ok sc_ldrawn (fun vs H Q E h => ?_) (fun cdv A outer s H vs Q E hr h => ?_)
  · obtain ⟨c, n, rfl, _⟩ := h
    rfl
  · obtain ⟨c, n, rfl, hc, hn1, hn2, k⟩ := h
    have hu := hu_of hr
    refine ⟨_, PSs.nox (pss_cons (ps_set (i := 3) sc_ldrawn.nd rfl (Or.inl rfl) (pe_callC G_law_draws (hr.mono (by decide)) (by rfl) (pa_cons (pv 0) (pa_cons pe_int pa_nil))))
      (pss_cons (ps_set (i := 4) sc_ldrawn.nd rfl (Or.inl rfl) (pe_callC G_law_rules (hr.mono (by decide)) (by rfl) (pa_cons (pe_slice sl_list (pv 3) (po_some pe_int) po_none) (pa_cons (pv 1) (pa_cons (pv 2) pa_nil)))))
      (pss_one (ps_ret (pe_lst (pa_cons (pe_makeC G_Turing (hr.mono (by decide)) (by rfl) (pa_cons (pv 1) (pa_cons (pv 2) (pa_cons (pe_callTy call_list_of (by rfl) T.f_list (by decide +kernel) (pa_cons (pv 4) pa_nil)) pa_nil)))) (pa_cons (pe_lst (pa_cons pe_str (pa_cons (pe_callC G_law_table (hr.mono (by decide)) (by rfl) (pa_cons (pv 4) pa_nil)) pa_nil))) (pa_cons (pv 4) pa_nil)))))))), ?_⟩
    refine ⟨_, rfl, c, 30, rfl, hc, by decide, fun ds dq H1 s1 hds e1 => ?_⟩
    refine gN (σ' := [some (.int c), some (vI n), some (vI 2), some (.ref dq), none]) rfl ?_
    refine ⟨_, rfl, _, rfl, dq, _, rfl, SqL.of e1, fun q1 hq1 => ⟨_, rfl, _, rfl, ?_⟩⟩
    have s2 := same_new (o := .lst (cutV (vIs ds) (some 14) none)) hq1
    have ecut : cutV (vIs ds) (some 14) none = vIs (ds.drop 14) := by
      rw [show cutV (vIs ds) (some 14) none = (vIs ds).drop 14 from cutV_drop (n := 14)]
      unfold vIs
      rw [List.map_drop]
    refine ⟨q1, ds.drop 14, n, 2, rfl, by rw [upd_same, ecut], by rw [List.length_drop, hds.1]; decide, by rw [List.length_drop, hds.1]; decide, hn1, by omega, by decide, by decide, fun rs v3 H3 s3 hrl hok hnd hlen => ?_⟩
    obtain ⟨rp, ts, rfl, hrp, hts⟩ := id hrl
    refine gN (σ' := [some (.int c), some (vI n), some (vI 2), some (.ref dq), some (.ref rp)]) rfl ?_
    refine ⟨_, rfl, _, rfl, _, rfl, rp, _, rfl, .inl (SqL.of hrp), fun l2 hl2 => ?_⟩
    have s4 := same_new (o := .lst (ts.map V.ref)) hl2
    intro x6 dx6 hx6 hdx6 nx6
    have s6 : Same (upd H3 l2 (.lst (ts.map V.ref))) (upd (upd (upd H3 l2 (.lst (ts.map V.ref))) dx6 (.own x6)) x6 (.ins (CT K) dx6 [])) := fun b o hb => by
      rw [upd_ne (ne_of_none hb hx6), upd_ne (ne_of_none hb hdx6)]
      exact hb
    refine ⟨x6, dx6, n, 2, .ref l2, rs, rfl, upd_same, ⟨l2, ts, rfl, s6 _ _ upd_same, hts.same fun b xs hb => s6 _ _ (s4 _ _ hb)⟩, ⟨hn1, by omega⟩, by decide, hok, hnd, by omega, fun H7 t7 n7 => ⟨rfl, ?_⟩⟩
    have s37 : Same H3 H7 := fun b o hb => n7 _ _ (s6 _ _ (s4 _ _ hb)) (ne_of_none (s4 _ _ hb) hx6)
    refine ⟨_, rfl, .ref rp, rs, rfl, hrl.same s37, hnd, by omega, fun tv H8 s8 ht8 => ⟨(by show 2 ≤ sizeLine; decide), fun q9 hq9 => ?_⟩⟩
    have s9 := same_new (o := .lst [.str "turing", tv]) hq9
    refine ⟨_, rfl, (by show 3 ≤ sizeLine; decide), fun q10 hq10 => ?_⟩
    have s10 := same_new (o := .lst [.ref x6, .ref q9, .ref rp]) hq10
    have s810 := s8.trans (s9.trans s10)
    exact k q10 (.ref x6) (.ref q9) (.ref rp) rs _ ((s1.trans s2).trans (s3.trans (s37.trans s810))) upd_same (t7.same s810) ⟨q9, tv, rs, rfl, s10 _ _ upd_same, ht8.same (s9.trans s10), rfl⟩ hok
end
end TH
/-! The law follows a translation. -/
namespace TH
open PySem PySem.Spec PyProof.Rows L2 UM
theorem src_ok {n : Nat} {rs : List Rul} (hk : ∀ r ∈ rs, okR n 2 r) (hnd : (rs.map key).Nodup) (hn1 : 1 ≤ n) : MOk n (tabOf rs) := by
  refine ⟨hn1, fun r b w m f hr hb h => ?_⟩
  obtain ⟨_, _, k3, k4, k5⟩ := hk _ ((tab_mem hnd).mp h)
  exact ⟨k3, by rcases k4 with q | q | q; exact .inr (.inl q); exact .inr (.inr q); exact .inl q, k5⟩
theorem rb_pic {n : Nat} {M : Tab} {c : Cfg} (O : MOk n M) (C : COk n c) : rb (pic n (entM M) c) = c ∧ ((cellsOf (pic n (entM M) c)).map (· / 2)).idxOf 1 < (cellsOf (pic n (entM M) c)).length ∧
    (((cellsOf (pic n (entM M) c)).map (· / 2)).filter fun s => s == 3 || s == 4).idxOf 4 < (((cellsOf (pic n (entM M) c)).map (· / 2)).filter fun s => s == 3 || s == 4).length := by
  have hD := tapeOf_on (a := 0) c
  exact rb_eq O C.st (pic_rep (n := n) (e := entM M) agree.home hD C.cl) rfl hD (tapeOf_lt C) C.cl C.cr
theorem wide_path {M : Tab} {c c' : Cfg} {k : Nat} (h : CPath M c k c') : wide c' ≤ wide c + k := by
  induction h with
  | refl => exact Nat.le_refl _
  | step _ e _ ih =>
    have := wide_step e
    omega
theorem wide_pic {n : Nat} {rs : List Rul} (hk : ∀ r ∈ rs, okR n 2 r) (hnd : (rs.map key).Nodup) (hn : n ≤ 40) (c : Cfg) : wide (pic n (srcM rs) c) ≤ wide c + 6000 := by
  have h1 := pre_len hk hnd hn (fun r => if r = c.st then 4 else 3) n
  have h2 : (codeL n (srcM rs) c.st).length ≤ 5000 := by
    unfold codeL
    rw [List.length_append]
    simp only [List.length_cons, List.length_nil]
    omega
  have h3 := strip_len (cellsL (codeL n (srcM rs) c.st) (c.h :: c.r)).tail
  have h4 := len_cells (codeL n (srcM rs) c.st) (c.h :: c.r)
  rw [List.length_tail, h4, List.length_cons] at h3
  show c.l.length + (strip (cellsL (codeL n (srcM rs) c.st) (c.h :: c.r)).tail).length ≤ c.l.length + c.r.length + 6000
  omega
theorem can_pic {n : Nat} {e : Nat → Nat → Ent} {c : Cfg} (h : Can c.l) : Can (pic n e c).l ∧ Can (pic n e c).r := ⟨h, can_strip _⟩
theorem runN_cons {M : Tab} {z z1 z2 : Cfg} {k : Nat} (e : stepC M z = some z1) (h : CPath M z1 k z2) : runN M (1 + k) z = some z2 := by
  rw [Nat.add_comm]
  show (stepC M z).bind (runN M k) = _
  rw [e]
  exact runN_path h
section
variable {P : Program} {w : World} {K : PySem.W.Frag} {mg : Str → Option Value} {base : Heap}
def spFollows (K : PySem.W.Frag) : Sp := fun vs H Qk _ => ∃ (tv sv bv : V) (n cnt : Nat) (rs : List Rul) (bud : Int) (c : Cfg), vs = [tv, sv, bv, vI cnt, .int bud, .bl true] ∧ ToUAt K H tv n rs ∧ n ≤ 4 ∧ RunAt H sv (tabOf rs) ∧ CfgAt H bv c ∧ COk n c ∧ wide c ≤ 10 ∧ cnt ≤ 10 ∧ ∀ H', Same H H' → Qk (.bl true) H'
abbrev sc_lfollowsN : List Str := ["_law_translation", "_law_source", "_law_begin", "_law_count", "_law_budget", "_law_exact", "_law_target", "_law_here", "_law_there", "_law_k", "_law_following", "_law_cost", "_law_extra"]
theorem sc_lfollows : FnScope sc_lfollowsN ["_law_translation", "_law_source", "_law_begin", "_law_count", "_law_budget", "_law_exact"] (defScope s_law_follows) := ⟨rfl, rfl, rfl, by decide +kernel, rfl, by decide +kernel, by decide +kernel⟩
theorem ok_lfollows {f : Addr} {fd : FuncData} (F : FnP K d_law_follows f fd) (T : Tx K mg) (G_law_runner : Cal P w K mg base 2 "_law_runner" ["_law_target"] (spRunner K)) (G_ToUniversal_picture : Met P w K mg base 2 (CU K) "picture" ["self", "configuration"] (spPic K))
    (G_law_like : Cal P w K mg base 4 "_law_like" ["_law_actual", "_law_due"] (spLk 3)) (G_ToUniversal_read_back : Met P w K mg base 2 (CU K) "read_back" ["self", "configuration"] (spRB K)) (G_law_go : Cal P w K mg base 3 "_law_go" ["_law_runner_here", "_law_here"] spGo)
    (G_ToUniversal_last_steps : Met P w K mg base 4 (CU K) "last_steps" ["self", "configuration"] (spSteps K)) (G_ToUniversal_cost : Met P w K mg base 4 (CU K) "cost" ["self", "configuration"] (spSteps K)) (G_law_is_count : Cal P w K mg base 1 "_law_is_count" ["_law_number", "_law_least"] spCount)
    (G_law_many : Cal P w K mg base 4 "_law_many" ["_law_runner_here", "_law_here", "_law_count"] spMany) : FnOk P w K mg base CX0 5 f fd ["_law_translation", "_law_source", "_law_begin", "_law_count", "_law_budget", "_law_exact"] (spFollows K) := by
  refine F.ok sc_lfollows (fun vs H Q E h => ?_) (fun cdv A outer s H vs Q E hr h => ?_)
  · obtain ⟨tv, sv, bv, n, cnt, rs, bud, c, rfl, _⟩ := h
    rfl
  · obtain ⟨tv, sv, bv, n, cnt, rs, bud, c, rfl, hU, hn4, hS, hB, hC, hwc, hcnt, k⟩ := h
    obtain ⟨p, dx, mv, gv, rq, as, rfl, hp, tur, tu, hq, hro, hrs, hn1, hn⟩ := id hU
    obtain ⟨_, _, _, _, _, _, _, _, _, _, hnd, _⟩ := id tur
    have O := src_ok hrs hnd hn1
    refine ⟨_, PSs.nox (pss_cons (ps_set (i := 6) sc_lfollows.nd rfl (Or.inl rfl) (pe_callC G_law_runner (hr.mono (by decide)) (by rfl) (pa_cons (pe_fld (pv 0) rfl) pa_nil)))
      (pss_cons (ps_set (i := 7) sc_lfollows.nd rfl (Or.inl rfl) (pv 2))
      (pss_cons (ps_set (i := 8) sc_lfollows.nd rfl (Or.inl rfl) (pe_methC (pv 0) T.c_ToUniversal G_ToUniversal_picture (hr.mono (by decide)) (pa_cons (pv 2) pa_nil)))
      (pss_cons (ps_for PassesOwn.never (by rfl) (pi_range1 (by rfl) T.f_range (pa_cons (pv 3) pa_nil)) (pg_name (i := 9) sc_lfollows.nd rfl (Or.inl rfl)) (pss_cons (ps_if (pt_not (pt_val (pe_callC G_law_like (hr.mono (by decide)) (by rfl) (pa_cons (pe_methC (pv 0) T.c_ToUniversal G_ToUniversal_read_back (hr.mono (by decide)) (pa_cons (pv 8) pa_nil)) (pa_cons (pv 7) pa_nil))))) (pss_one (ps_ret pe_bl)) pss_nil)
      (pss_cons (ps_if (PW.pt (pw_and (pt_val (pv 5)) (pw_and1 (pt_not (pt_val (pe_callC G_law_like (hr.mono (by decide)) (by rfl) (pa_cons (pv 8) (pa_cons (pe_methC (pv 0) T.c_ToUniversal G_ToUniversal_picture (hr.mono (by decide)) (pa_cons (pv 7) pa_nil)) pa_nil)))))))) (pss_one (ps_ret pe_bl)) pss_nil)
      (pss_cons (ps_set (i := 10) sc_lfollows.nd rfl (Or.inl rfl) (pe_callC G_law_go (hr.mono (by decide)) (by rfl) (pa_cons (pv 1) (pa_cons (pv 7) pa_nil))))
      (pss_cons (ps_if (pt_cmpR op_isN (pv 10) pe_non (nomark _)) (pss_cons (ps_set (i := 12) sc_lfollows.nd rfl (Or.inl rfl) (pe_methC (pv 0) T.c_ToUniversal G_ToUniversal_last_steps (hr.mono (by decide)) (pa_cons (pv 7) pa_nil)))
      (pss_cons (ps_if (pt_not (pt_val (pe_callC G_law_is_count (hr.mono (by decide)) (by rfl) (pa_cons (pv 12) (pa_cons pe_int pa_nil))))) (pss_one (ps_ret pe_bl)) pss_nil)
      (pss_cons (ps_set (i := 8) sc_lfollows.nd rfl (Or.inl rfl) (pe_callC G_law_many (hr.mono (by decide)) (by rfl) (pa_cons (pv 6) (pa_cons (pv 8) (pa_cons (pv 12) pa_nil)))))
      (pss_cons (ps_if (PW.pt (pw_or (pt_cmpR op_isN (pv 8) pe_non (nomark _)) (pw_or1 (pt_cmpR op_notN (pe_callC G_law_go (hr.mono (by decide)) (by rfl) (pa_cons (pv 6) (pa_cons (pv 8) pa_nil))) pe_non (nomark _))))) (pss_one (ps_ret pe_bl)) pss_nil)
      (pss_one (ps_ret (pe_callC G_law_like (hr.mono (by decide)) (by rfl) (pa_cons (pe_methC (pv 0) T.c_ToUniversal G_ToUniversal_read_back (hr.mono (by decide)) (pa_cons (pv 8) pa_nil)) (pa_cons (pv 7) pa_nil))))))))) pss_nil)
      (pss_cons (ps_set (i := 11) sc_lfollows.nd rfl (Or.inl rfl) (pe_methC (pv 0) T.c_ToUniversal G_ToUniversal_cost (hr.mono (by decide)) (pa_cons (pv 7) pa_nil)))
      (pss_cons (ps_if (pt_not (pt_val (pe_callC G_law_is_count (hr.mono (by decide)) (by rfl) (pa_cons (pv 11) (pa_cons pe_int pa_nil))))) (pss_one (ps_ret pe_bl)) pss_nil)
      (pss_cons (ps_set (i := 4) sc_lfollows.nd rfl (Or.inl rfl) (pe_op op_sub (pv 4) (pv 11)))
      (pss_cons (ps_if (pt_cmpR op_lt (pv 4) pe_int (nomark _)) (pss_one (ps_ret pe_bl)) pss_nil)
      (pss_cons (ps_set (i := 8) sc_lfollows.nd rfl (Or.inl rfl) (pe_callC G_law_many (hr.mono (by decide)) (by rfl) (pa_cons (pv 6) (pa_cons (pv 8) (pa_cons (pv 11) pa_nil)))))
      (pss_cons (ps_if (pt_cmpR op_isN (pv 8) pe_non (nomark _)) (pss_one (ps_ret pe_bl)) pss_nil)
      (pss_one (ps_set (i := 7) sc_lfollows.nd rfl (Or.inl rfl) (pv 10))))))))))))))
      (pss_one (ps_ret pe_bl)))))), ?_⟩
    refine ⟨_, rfl, p, CU K, dx, _, _, rfl, hp, T.c_ToUniversal, T.n_ToUniversal_target, rfl, gv, 92, 28, uniB.rules, rfl, tu, fun gr H1 s1 hgr => ?_⟩
    refine gN (σ' := [some (.ref p), some sv, some bv, some (vI cnt), some (.int bud), some (.bl true), some gr, none, none, none, none, none, none]) rfl ?_
    refine ⟨_, rfl, ?_⟩
    refine gN (σ' := [some (.ref p), some sv, some bv, some (vI cnt), some (.int bud), some (.bl true), some gr, some bv, none, none, none, none, none]) rfl ?_
    refine ⟨_, rfl, p, dx, _, rfl, s1 _ _ hp, rfl, _, rfl, .ref p, bv, n, rs, c, rfl, hU.same s1, hB.same s1, (by unfold wide at hwc; omega), fun pv H2 s2 hpv => ?_⟩
    refine gN (σ' := [some (.ref p), some sv, some bv, some (vI cnt), some (.int bud), some (.bl true), some gr, some bv, some pv, none, none, none, none]) rfl ?_
    have s12 := s1.trans s2
    refine ⟨_, rfl, cnt, rfl, by omega, by omega, ?_⟩
    refine for_rangeN (n := cnt) (fun i σ H' => ∃ (b : Int) (hv tv : V) (o9 o10 o11 o12 : Option V) (c : Cfg), σ = [some (.ref p), some sv, some bv, some (vI cnt), some (.int b), some (.bl true), some gr, some hv, some tv, o9, o10, o11, o12] ∧ Same H H' ∧ RunAt H' gr uniT ∧
      CfgAt H' hv c ∧ CfgAt H' tv (pic n (srcM rs) c) ∧ COk n c ∧ wide c ≤ 10 + i) ⟨bud, bv, pv, none, none, none, none, c, rfl, s12, hgr.same s2, hB.same s12, hpv, hC, hwc⟩ ?_ ?_
    · rintro i σ H3 hi ⟨b, hv, tv, o9, o10, o11, o12, c, rfl, s3, hg, hh, ht, C, hw⟩
      refine gN (σ' := [some (.ref p), some sv, some bv, some (vI cnt), some (.int b), some (.bl true), some gr, some hv, some tv, some (vI i), o10, o11, o12]) rfl ?_
      have hwp := wide_pic hrs hnd hn c
      obtain ⟨hrb, hi1, hi2⟩ := rb_pic O C
      -- read back
      refine ⟨_, rfl, p, dx, _, rfl, s3 _ _ hp, rfl, _, rfl, .ref p, tv, pic n (srcM rs) c, rfl, ht, (by unfold wide at hwp hw; omega), hi1, hi2, fun v4 H4 s4 h4 => ?_⟩
      rw [hrb] at h4
      refine ⟨_, rfl, v4, hv, rfl, lk_cfg h4 (hh.same s4) (by unfold wide at hw; omega), fun H5 s5 => ⟨_, rfl, iteF ?_⟩⟩
      have s35 := s3.trans (s4.trans s5)
      have hh5 := (hh.same s4).same s5
      have ht5 := (ht.same s4).same s5
      have hg5 := (hg.same s4).same s5
      -- exact
      refine ⟨_, rfl, _, rfl, iteT ?_⟩
      refine ⟨_, rfl, _, rfl, p, dx, _, rfl, s35 _ _ hp, rfl, _, rfl, .ref p, hv, n, rs, c, rfl, hU.same s35, hh5, (by unfold wide at hw; omega), fun v6 H6 s6 h6 => ?_⟩
      refine ⟨tv, v6, rfl, lk_cfg (ht5.same s6) h6 (by unfold wide at hwp hw; omega), fun H7 s7 => ⟨_, rfl, iteF ?_⟩⟩
      have s57 := s6.trans s7
      have s37 := s35.trans s57
      have hh7 := hh5.same s57
      have ht7 := ht5.same s57
      have hg7 := hg5.same s57
      obtain ⟨cpl, cpr⟩ := can_pic (n := n) (e := srcM rs) C.cl
      -- the step of the source
      refine ⟨_, rfl, _, rfl, sv, hv, tabOf rs, c, rfl, hS.same s37, hh7, by omega, C.cl, C.cr, fun e H8 s8 => ?_, fun c' v8 H8 e s8 h8 => ?_⟩
      · refine gN (σ' := [some (.ref p), some sv, some bv, some (vI cnt), some (.int b), some (.bl true), some gr, some hv, some tv, some (vI i), some .non, o11, o12]) rfl ?_
        refine ⟨_, rfl, rfl, _, rfl, iteT ?_⟩
        obtain ⟨z1, kk, z2, t, hk, e1, path, hz2, stop, R, tS, tD⟩ := uni_none agree O hn4 C e
        have w1 : wide z1 ≤ wide (pic n (srcM rs) c) + 1 := wide_step e1
        have w2 := wide_path path
        have s38 := s37.trans s8
        refine ⟨_, rfl, p, dx, _, rfl, s38 _ _ hp, rfl, _, rfl, .ref p, hv, n, rs, c, z1, z2, kk, rfl, hU.same s38, hh7.same s8, by omega, (by unfold wide at hw; omega), e1, hk, path, .inr stop, fun H9 s9 => ?_⟩
        refine gN (σ' := [some (.ref p), some sv, some bv, some (vI cnt), some (.int b), some (.bl true), some gr, some hv, some tv, some (vI i), some .non, o11, some (vI (1 + kk))]) rfl ?_
        have s79 := s8.trans s9
        refine ⟨_, rfl, ((1 + kk : Nat) : Int), 0, rfl, by omega, _, rfl, iteF ?_⟩
        refine ⟨_, rfl, _, rfl, _, rfl, gr, tv, uniT, pic n (srcM rs) c, z2, 1 + kk, rfl, hg7.same s79, ht7.same s79, by omega, cpl, cpr, runN_cons e1 path, fun v10 H10 s10 h10 => ?_⟩
        obtain ⟨q10, l10, r10, rfl, _⟩ := id h10
        refine gN (σ' := [some (.ref p), some sv, some bv, some (vI cnt), some (.int b), some (.bl true), some gr, some hv, some (.ref q10), some (vI i), some .non, o11, some (vI (1 + kk))]) rfl ?_
        refine ⟨_, rfl, rfl, _, rfl, iteF ?_⟩
        have s710 := s79.trans s10
        refine ⟨_, rfl, _, rfl, gr, .ref q10, uniT, z2, rfl, hg7.same s710, h10, by omega, R.cl, R.cr, fun _ H11 s11 => ⟨rfl, _, rfl, iteF ?_⟩, fun c'' v' H' e' => ?_⟩
        · have s311 := (s37.trans s710).trans s11
          obtain ⟨hrb2, hi3, hi4⟩ := rb_eq (a := 0) (q := c.st) (h := c.h) (l := c.l) (r := c.r) O C.st R tS (by rw [tD]; exact tapeOf_on c) (fun i => by rw [tD]; exact tapeOf_lt C i) C.cl C.cr
          refine ⟨_, rfl, p, dx, _, rfl, s311 _ _ hp, rfl, _, rfl, .ref p, .ref q10, z2, rfl, h10.same s11, (by unfold wide at w2 w1 hwp hw; omega), hi3, hi4, fun v12 H12 s12 h12 => ?_⟩
          rw [hrb2] at h12
          exact ⟨_, rfl, v12, hv, rfl, lk_cfg (c := c) h12 ((hh7.same (s710.trans s11)).same s12) (by unfold wide at hw; omega), fun H13 s13 => k H13 (s311.trans (s12.trans s13))⟩
        · rw [stop] at e'
          cases e'
      · obtain ⟨q8, l8, r8, rfl, _⟩ := id h8
        refine gN (σ' := [some (.ref p), some sv, some bv, some (vI cnt), some (.int b), some (.bl true), some gr, some hv, some tv, some (vI i), some (.ref q8), o11, o12]) rfl ?_
        refine ⟨_, rfl, rfl, _, rfl, iteF ?_⟩
        obtain ⟨z1, kk, hk, e1, path⟩ := uni_some agree O hn4 C e
        have w1 : wide z1 ≤ wide (pic n (srcM rs) c) + 1 := wide_step e1
        have s38 := s37.trans s8
        have C' := cok_step O C e
        have w3 := wide_step e
        refine ⟨_, rfl, p, dx, _, rfl, s38 _ _ hp, rfl, _, rfl, .ref p, hv, n, rs, c, z1, pic n (srcM rs) c', kk, rfl, hU.same s38, hh7.same s8, by omega, (by unfold wide at hw; omega), e1, hk, path, .inl rfl, fun H9 s9 => ?_⟩
        refine gN (σ' := [some (.ref p), some sv, some bv, some (vI cnt), some (.int b), some (.bl true), some gr, some hv, some tv, some (vI i), some (.ref q8), some (vI (1 + kk)), o12]) rfl ?_
        have s79 := s8.trans s9
        refine ⟨_, rfl, ((1 + kk : Nat) : Int), 1, rfl, by omega, _, rfl, iteF ?_⟩
        refine ⟨_, rfl, _, rfl, _, _, rfl, rfl, ?_⟩
        refine gN (σ' := [some (.ref p), some sv, some bv, some (vI cnt), some (.int (b - ((1 + kk : Nat) : Int))), some (.bl true), some gr, some hv, some tv, some (vI i), some (.ref q8), some (vI (1 + kk)), o12]) rfl ?_
        refine ⟨_, rfl, _, _, rfl, rfl, _, rfl, iteB (fun _ => k H9 (s37.trans s79)) fun _ => ?_⟩
        refine ⟨_, rfl, _, rfl, _, rfl, gr, tv, uniT, pic n (srcM rs) c, pic n (srcM rs) c', 1 + kk, rfl, hg7.same s79, ht7.same s79, by omega, cpl, cpr, runN_cons e1 path, fun v10 H10 s10 h10 => ?_⟩
        obtain ⟨q10, l10, r10, rfl, _⟩ := id h10
        refine gN (σ' := [some (.ref p), some sv, some bv, some (vI cnt), some (.int (b - ((1 + kk : Nat) : Int))), some (.bl true), some gr, some hv, some (.ref q10), some (vI i), some (.ref q8), some (vI (1 + kk)), o12]) rfl ?_
        refine ⟨_, rfl, rfl, _, rfl, iteF ?_⟩
        have s710 := s79.trans s10
        exact ⟨_, rfl, b - ((1 + kk : Nat) : Int), .ref q8, .ref q10, _, _, _, _, c', rfl, s37.trans s710, hg7.same s710, (h8.same s9).same s10, h10, C', by omega⟩
    · rintro σ H3 ⟨b, hv, tv, o9, o10, o11, o12, c, rfl, s3, _⟩
      exact k H3 s3
end
end TH
/-! The law. -/
namespace TH
open PySem PySem.Spec PyProof.Rows L2 UM
section
variable {P : Program} {w : World} {K : PySem.W.Frag} {mg : Str → Option Value} {base : Heap}
theorem sqL_same {H H' : Hp} {a : Addr} {xs : List V} (h : SqL K H a xs) (s : Same H H') : SqL K H' a xs := by
  rcases h with (h | ⟨o, h⟩) | h
  · exact .inl (.inl (s _ _ h))
  · exact .inl (.inr ⟨o, s _ _ h⟩)
  · exact .inr h
theorem cell_nn (ns : List Int) (i : Nat) : 0 ≤ cellI ns i := by
  unfold cellI
  omega
def spLaw (K : PySem.W.Frag) : Sp := fun vs H Qk _ => ∃ (a : Addr) (ns : List Int), vs = [.ref a] ∧ SqL K H a (ns.map V.int) ∧ ∀ H', Qk (.bl true) H'
abbrev sc_llawN : List Str := ["_law_script", "_law_draws_here", "_law_states", "_law_begin", "_law_machine", "_law_source", "_law_rules_here"]
theorem sc_llaw : FnScope sc_llawN ["_law_script"] (defScope s_law) := ⟨rfl, rfl, rfl, by decide +kernel, rfl, by decide +kernel, by decide +kernel⟩
theorem ok_llaw {f : Addr} {fd : FuncData} (F : FnP K d_law f fd) (T : Tx K mg) (G_law_draws : Cal P w K mg base 1 "_law_draws" ["_law_cell_here", "_law_count"] spDraws) (G_law_cell : Cal P w K mg base 1 "_law_cell" ["_law_script", "_law_k"] (spCell K))
    (G_law_drawn_turing : Cal P w K mg base 3 "_law_drawn_turing" ["_law_cell_here", "_law_states", "_law_symbols"] (spDrawn K)) (G_law_tape : Cal P w K mg base 2 "_law_tape" ["_law_draws_here", "_law_states", "_law_symbols", "_law_most"] spLTape)
    (G_ToUniversal : Mak P w K mg base 7 (CU K) "ToUniversal" ["self", "machine"] (spUInit K)) (G_law_follows : Cal P w K mg base 5 "_law_follows" ["_law_translation", "_law_source", "_law_begin", "_law_count", "_law_budget", "_law_exact"] (spFollows K)) : FnOk P w K mg base CX0 9 f fd ["_law_script"] (spLaw K) := by
  refine F.ok sc_llaw (fun vs H Q E h => ?_) (fun cdv A outer s H vs Q E hr h => ?_)
  · obtain ⟨a, ns, rfl, _⟩ := h
    rfl
  · obtain ⟨a, ns, rfl, ha, k⟩ := h
    refine ⟨_, PSs.nox (pss_cons (ps_set (i := 1) sc_llaw.nd rfl (Or.inl rfl) (pe_callC G_law_draws (hr.mono (by decide)) (by rfl) (pa_cons (pe_callC G_law_cell (hr.mono (by decide)) (by rfl) (pa_cons (pv 0) (pa_cons pe_int pa_nil))) (pa_cons pe_int pa_nil))))
      (pss_cons (ps_set (i := 2) sc_llaw.nd rfl (Or.inl rfl) (pe_op op_add pe_int (pe_op op_mod (pe_ix ix_list (pv 1) pe_int (fun _ _ => rfl)) pe_int)))
      (pss_cons (ps_asg (pe_callC G_law_drawn_turing (hr.mono (by decide)) (by rfl) (pa_cons (pe_callC G_law_cell (hr.mono (by decide)) (by rfl) (pa_cons (pv 0) (pa_cons pe_int pa_nil))) (pa_cons (pv 2) (pa_cons pe_int pa_nil)))) (pg_unl (by rfl) (pgs_cons (pg_name (i := 4) sc_llaw.nd rfl (Or.inl rfl)) (pgs_cons (pg_name (i := 5) sc_llaw.nd rfl (Or.inl rfl)) (pgs_cons (pg_name (i := 6) sc_llaw.nd rfl (Or.inl rfl)) pgs_nil)))))
      (pss_cons (ps_set (i := 3) sc_llaw.nd rfl (Or.inl rfl) (pe_callC G_law_tape (hr.mono (by decide)) (by rfl) (pa_cons (pe_callC G_law_draws (hr.mono (by decide)) (by rfl) (pa_cons (pe_callC G_law_cell (hr.mono (by decide)) (by rfl) (pa_cons (pv 0) (pa_cons pe_int pa_nil))) (pa_cons pe_int pa_nil))) (pa_cons (pv 2) (pa_cons pe_int (pa_cons pe_int pa_nil))))))
      (pss_one (ps_ret (pe_callC G_law_follows (hr.mono (by decide)) (by rfl) (pa_cons (pe_makeC G_ToUniversal (hr.mono (by decide)) (by rfl) (pa_cons (pv 4) pa_nil)) (pa_cons (pv 5) (pa_cons (pv 3) (pa_cons pe_int (pa_cons pe_int (pa_cons pe_bl pa_nil))))))))))))), ?_⟩
    refine ⟨_, rfl, a, ns, 0, rfl, ha, cellI ns 0, 4, rfl, cell_nn _ _, by decide, fun ds dq H1 s1 hds e1 => ?_⟩
    refine gN (σ' := [some (.ref a), some (.ref dq), none, none, none, none, none]) rfl ?_
    refine ⟨_, rfl, _, _, _, _, rfl, rfl, SqL.of e1, atI_vIs (i := 0) rfl (by rw [hds.1]; decide), _, _, rfl, rfl, (by decide : (0 : Int) < 4), _, _, rfl, rfl, ?_⟩
    have hn : (1 : Int) + ((g ds 0 : Nat) : Int) % 4 = ((1 + g ds 0 % 4 : Nat) : Int) := by omega
    refine gN (σ' := [some (.ref a), some (.ref dq), some (vI (1 + g ds 0 % 4)), none, none, none, none]) (by show [some (V.ref a), some (V.ref dq), some (V.int (1 + ((g ds 0 : Nat) : Int) % 4)), none, none, none, none] = _; rw [hn]) ?_
    have hn1 : 1 ≤ 1 + g ds 0 % 4 := by omega
    have hn4 : 1 + g ds 0 % 4 ≤ 4 := by omega
    generalize 1 + g ds 0 % 4 = n at *
    refine ⟨_, rfl, a, ns, 1, rfl, sqL_same ha s1, _, rfl, cellI ns 1, n, rfl, cell_nn _ _, hn1, hn4, fun q mv sv rv rs H2 s2 e2 tur hrun hok => ?_⟩
    refine ⟨q, _, rfl, SqL.of e2, rfl, _, _, rfl, _, _, rfl, _, _, rfl, rfl, ?_⟩
    have s12 := s1.trans s2
    refine norm_st (σ' := [some (.ref a), some (.ref dq), some (vI n), none, some mv, some sv, some rv]) rfl ?_
    refine ⟨_, rfl, a, ns, 2, rfl, sqL_same ha s12, cellI ns 2, 14, rfl, cell_nn _ _, by decide, fun ds2 dq2 H3 s3 hds2 e3 => ?_⟩
    refine ⟨_, rfl, dq2, ds2, n, rfl, e3, hds2.1, hn1, fun c v4 H4 s4 hc C hcl hcr => ?_⟩
    refine gN (σ' := [some (.ref a), some (.ref dq), some (vI n), some v4, some mv, some sv, some rv]) rfl ?_
    have s34 := s3.trans s4
    refine ⟨_, rfl, fun x6 dx6 hx6 hdx6 nx6 => ?_⟩
    have s6 : Same H4 (upd (upd H4 dx6 (.own x6)) x6 (.ins (CU K) dx6 [])) := fun b o hb => by
      rw [upd_ne (ne_of_none hb hx6), upd_ne (ne_of_none hb hdx6)]
      exact hb
    refine ⟨x6, dx6, mv, n, rs, rfl, upd_same, (tur.same s34).same s6, hok, hn1, by omega, fun H7 hU n7 => ⟨rfl, ?_⟩⟩
    have s47 : Same H4 H7 := fun b o hb => n7 _ _ (s6 _ _ hb) (ne_of_none hb hx6)
    refine ⟨_, rfl, _, rfl, .ref x6, sv, v4, n, 4, rs, 5000, c, rfl, hU, hn4, hrun.same (s34.trans s47), hc.same s47, C, (by unfold wide; omega), by decide, fun H8 _ => k H8⟩
end
end TH
/-! The end: the top's facts, the promises joined, the law. -/
namespace TH
open PySem PySem.Spec PyProof.Rows L2 UM
theorem mv_ok {K : PySem.W.Frag} (h : mvB K = true) : KInts K (DM K) [9, 10, 11] := by
  unfold mvB at h
  split at h
  · rename_i c es ep sl e
    rw [Bool.and_eq_true, Bool.and_eq_true, Bool.and_eq_true, decide_eq_true_eq] at h
    obtain ⟨hc, hsl, hs, hm⟩ := h
    split at hm
    · rename_i e1 e2 e3 hes
      split at hm
      · rename_i i1 t1 i2 t2 i3 t3 k1 k2 k3
        rw [Bool.and_eq_true, Bool.and_eq_true, decide_eq_true_eq, decide_eq_true_eq, decide_eq_true_eq] at hm
        obtain ⟨rfl, rfl, rfl⟩ := hm
        have hes2 : es = #[e1, e2, e3] := by rw [← Array.toArray_toList (xs := es), hes]
        subst hes2
        refine ⟨_, _, _, e, ⟨by rw [hc], rfl, Array.isEmpty_iff.mp hsl⟩, rfl, (by simpa using hs), rfl, (by decide : 3 ≤ sizeLine), fun i k hk => ?_⟩
        match i, hk with
        | 0, hk => cases hk; exact ⟨e1, t1, rfl, k1⟩
        | 1, hk => cases hk; exact ⟨e2, t2, rfl, k2⟩
        | 2, hk => cases hk; exact ⟨e3, t3, rfl, k3⟩
        | i + 3, hk => cases hk
      · cases hm
    · cases hm
  · cases h
theorem tx {K : PySem.W.Frag} {h : Heap} {mg : Str → Option Value} (X : K.In h) (G : h.Ns mainGlobals mg) (c : He.SaysD fa fn K) (hx : exB K = true) : Tx K mg := by
  have hx2 : mvB K = true ∧ isB K = true := by
    unfold exB at hx
    rw [Bool.and_eq_true] at hx
    exact hx
  have hi := hx2.2
  unfold isB at hi
  rw [Bool.and_eq_true, Bool.and_eq_true, Bool.and_eq_true, Bool.and_eq_true, decide_eq_true_eq, decide_eq_true_eq, decide_eq_true_eq] at hi
  exact {
    c_Turing := He.cls_ok (c.fact 23 (f := .cls "Turing") rfl)
    g_Turing := He.glo_ok X G (c.fact 22 (f := .glo "Turing") rfl)
    c_Builder := He.cls_ok (c.fact 26 (f := .cls "Builder") rfl)
    g_Builder := He.glo_ok X G (c.fact 25 (f := .glo "Builder") rfl)
    c_ToUniversal := He.cls_ok (c.fact 29 (f := .cls "ToUniversal") rfl)
    g_ToUniversal := He.glo_ok X G (c.fact 28 (f := .glo "ToUniversal") rfl)
    n_Turing_states := He.noat_ok (c.fact 36 (f := .noat "Turing" "states") rfl)
    n_Turing_symbols := He.noat_ok (c.fact 37 (f := .noat "Turing" "symbols") rfl)
    n_Turing_table := He.noat_ok (c.fact 38 (f := .noat "Turing" "table") rfl)
    n_Turing_rules := He.noat_ok (c.fact 39 (f := .noat "Turing" "rules") rfl)
    n_Builder_numbers := He.noat_ok (c.fact 40 (f := .noat "Builder" "numbers") rfl)
    n_Builder_rules := He.noat_ok (c.fact 41 (f := .noat "Builder" "rules") rfl)
    n_ToUniversal_source := He.noat_ok (c.fact 42 (f := .noat "ToUniversal" "source") rfl)
    n_ToUniversal_target := He.noat_ok (c.fact 43 (f := .noat "ToUniversal" "target") rfl)
    n_ToUniversal_rows := He.noat_ok (c.fact 44 (f := .noat "ToUniversal" "rows") rfl)
    f_len := He.free_ok X G (c.fact 58 (f := .free "len") rfl)
    f_range := He.free_ok X G (c.fact 59 (f := .free "range") rfl)
    f_list := He.free_ok X G (c.fact 60 (f := .free "list") rfl)
    f_tuple := He.free_ok X G (c.fact 61 (f := .free "tuple") rfl)
    f_isinstance := He.free_ok X G (c.fact 62 (f := .free "isinstance") rfl)
    f_zip := He.free_ok X G (c.fact 63 (f := .free "zip") rfl)
    f_max := He.free_ok X G (c.fact 64 (f := .free "max") rfl)
    f_sorted := He.free_ok X G (c.fact 65 (f := .free "sorted") rfl)
    f_abs := He.free_ok X G (c.fact 66 (f := .free "abs") rfl)
    f_int := He.free_ok X G (c.fact 67 (f := .free "int") rfl)
    f_all := He.free_ok X G (c.fact 68 (f := .free "all") rfl)
    f_bool := He.free_ok X G (c.fact 69 (f := .free "bool") rfl)
    f_str := He.free_ok X G (c.fact 70 (f := .free "str") rfl)
    i_BLANK := He.int_ok X G (c.fact 71 (f := .int "BLANK" 0) rfl)
    i_MOST_STATES_turing := He.int_ok X G (c.fact 72 (f := .int "MOST_STATES_turing" 20000) rfl)
    i_MOST_SYMBOLS_turing := He.int_ok X G (c.fact 73 (f := .int "MOST_SYMBOLS_turing" 400) rfl)
    i_MOST_STATES_universal := He.int_ok X G (c.fact 74 (f := .int "MOST_STATES_universal" 40) rfl)
    i_NOTHING := He.int_ok X G (c.fact 75 (f := .int "NOTHING" 0) rfl)
    i_OPEN := He.int_ok X G (c.fact 76 (f := .int "OPEN" 1) rfl)
    i_CLOSE := He.int_ok X G (c.fact 77 (f := .int "CLOSE" 2) rfl)
    i_ROW := He.int_ok X G (c.fact 78 (f := .int "ROW" 3) rfl)
    i_ACTIVE := He.int_ok X G (c.fact 79 (f := .int "ACTIVE" 4) rfl)
    i_UNIT := He.int_ok X G (c.fact 80 (f := .int "UNIT" 5) rfl)
    i_MARKED := He.int_ok X G (c.fact 81 (f := .int "MARKED" 6) rfl)
    i_ZERO := He.int_ok X G (c.fact 82 (f := .int "ZERO" 7) rfl)
    i_ONE := He.int_ok X G (c.fact 83 (f := .int "ONE" 8) rfl)
    i_LEFT := He.int_ok X G (c.fact 84 (f := .int "LEFT" 9) rfl)
    i_STAY := He.int_ok X G (c.fact 85 (f := .int "STAY" 10) rfl)
    i_RIGHT := He.int_ok X G (c.fact 86 (f := .int "RIGHT" 11) rfl)
    i_COMMA := He.int_ok X G (c.fact 87 (f := .int "COMMA" 12) rfl)
    i_MISSING := He.int_ok X G (c.fact 88 (f := .int "MISSING" 13) rfl)
    i_SIGNS := He.int_ok X G (c.fact 89 (f := .int "SIGNS" 14) rfl)
    g_MOVES := He.glo_ok X G (c.fact 31 (f := .glo "MOVES") rfl)
    mv := mv_ok hx2.1
    isT := hi.1
    isC := He.eqO_ok hi.2.1
    isS := He.eqO_ok hi.2.2.1
    isK := hi.2.2.2.1
    isM := hi.2.2.2.2 }
theorem facts {P : Program} {w : World} {K : PySem.W.Frag} {h : Heap} {mg : Str → Option Value} {f : Addr} (X : K.In h) (G : h.Ns mainGlobals mg) (hfa : mg ("law" : Str) = some (.ref f)) (cz : SaysZ K) :
    ∃ fd : FuncData, (∀ (s : Shared) (v : Value), BindsTo s fd ⟨[v], []⟩ [("_law_script", v)]) ∧ ∀ base : Heap, K.In base → base.Ns mainGlobals mg → FnOk P w K mg base CX0 9 f fd ["_law_script"] (spLaw K) := by
  obtain ⟨c, hx⟩ := cz
  have T : Tx K mg := tx X G c hx
  obtain ⟨e_stripped, F_stripped⟩ := c.def_ 0 (d := d_stripped) rfl
  obtain ⟨e_Turing_init, F_Turing_init⟩ := c.def_ 1 (d := d_Turing_init) rfl
  obtain ⟨e_Turing_rule, F_Turing_rule⟩ := c.def_ 2 (d := d_Turing_rule) rfl
  obtain ⟨e_Turing_step, F_Turing_step⟩ := c.def_ 3 (d := d_Turing_step) rfl
  obtain ⟨e_moved, F_moved⟩ := c.def_ 4 (d := d_moved) rfl
  obtain ⟨e_Builder_init, F_Builder_init⟩ := c.def_ 5 (d := d_Builder_init) rfl
  obtain ⟨e_Builder_state, F_Builder_state⟩ := c.def_ 6 (d := d_Builder_state) rfl
  obtain ⟨e_Builder_on, F_Builder_on⟩ := c.def_ 7 (d := d_Builder_on) rfl
  obtain ⟨e_Builder_keep, F_Builder_keep⟩ := c.def_ 8 (d := d_Builder_keep) rfl
  obtain ⟨e_Builder_seek, F_Builder_seek⟩ := c.def_ 9 (d := d_Builder_seek) rfl
  obtain ⟨e_write_reading, F_write_reading⟩ := c.def_ 10 (d := d_write_reading) rfl
  obtain ⟨e_write_writing, F_write_writing⟩ := c.def_ 11 (d := d_write_writing) rfl
  obtain ⟨e_write_choosing, F_write_choosing⟩ := c.def_ 12 (d := d_write_choosing) rfl
  obtain ⟨e_write_moving, F_write_moving⟩ := c.def_ 13 (d := d_write_moving) rfl
  obtain ⟨e_universal, F_universal⟩ := c.def_ 14 (d := d_universal) rfl
  obtain ⟨e_ToUniversal_init, F_ToUniversal_init⟩ := c.def_ 15 (d := d_ToUniversal_init) rfl
  obtain ⟨e_ToUniversal_entry, F_ToUniversal_entry⟩ := c.def_ 16 (d := d_ToUniversal_entry) rfl
  obtain ⟨e_ToUniversal_signs, F_ToUniversal_signs⟩ := c.def_ 17 (d := d_ToUniversal_signs) rfl
  obtain ⟨e_ToUniversal_picture, F_ToUniversal_picture⟩ := c.def_ 18 (d := d_ToUniversal_picture) rfl
  obtain ⟨e_ToUniversal_read_back, F_ToUniversal_read_back⟩ := c.def_ 19 (d := d_ToUniversal_read_back) rfl
  obtain ⟨e_ToUniversal_steps_to_home, F_ToUniversal_steps_to_home⟩ := c.def_ 20 (d := d_ToUniversal_steps_to_home) rfl
  obtain ⟨e_ToUniversal_cost, F_ToUniversal_cost⟩ := c.def_ 21 (d := d_ToUniversal_cost) rfl
  obtain ⟨e_ToUniversal_last_steps, F_ToUniversal_last_steps⟩ := c.def_ 22 (d := d_ToUniversal_last_steps) rfl
  obtain ⟨e_law_cell, F_law_cell⟩ := c.def_ 23 (d := d_law_cell) rfl
  obtain ⟨e_law_draws, F_law_draws⟩ := c.def_ 24 (d := d_law_draws) rfl
  obtain ⟨e_law_like, F_law_like⟩ := c.def_ 25 (d := d_law_like) rfl
  obtain ⟨e_law_strip, F_law_strip⟩ := c.def_ 26 (d := d_law_strip) rfl
  obtain ⟨e_law_rules, F_law_rules⟩ := c.def_ 27 (d := d_law_rules) rfl
  obtain ⟨e_law_tape, F_law_tape⟩ := c.def_ 28 (d := d_law_tape) rfl
  obtain ⟨e_law_turing_step, F_law_turing_step⟩ := c.def_ 29 (d := d_law_turing_step) rfl
  obtain ⟨e_law_table, F_law_table⟩ := c.def_ 30 (d := d_law_table) rfl
  obtain ⟨e_law_runner, F_law_runner⟩ := c.def_ 31 (d := d_law_runner) rfl
  obtain ⟨e_law_go, F_law_go⟩ := c.def_ 32 (d := d_law_go) rfl
  obtain ⟨e_law_many, F_law_many⟩ := c.def_ 33 (d := d_law_many) rfl
  obtain ⟨e_law_follows, F_law_follows⟩ := c.def_ 34 (d := d_law_follows) rfl
  obtain ⟨e_law_is_count, F_law_is_count⟩ := c.def_ 35 (d := d_law_is_count) rfl
  obtain ⟨e_law_drawn_turing, F_law_drawn_turing⟩ := c.def_ 36 (d := d_law_drawn_turing) rfl
  obtain ⟨e_law, F_law⟩ := c.def_ 37 (d := d_law) rfl
  have e := hfa.symm.trans (He.glo_ok X G (c.fact 21 (f := .glo "law") rfl))
  cases e
  have b := FunD.bindsA (ps := ["_law_script"]) F_law fun _ _ _ _ _ _ us hl => match us, hl with | [_], _ => rfl
  refine ⟨e_law, fun s v => b s [v] rfl, fun base _ _ => ?_⟩
  have G_stripped : Cal P w K mg base 1 "stripped" ["symbols"] spStrip := ⟨_, _, (ok_stripped F_stripped T), He.glo_ok X G (c.fact 0 (f := .glo "stripped") rfl), F_stripped.kp, (FunD.bindsN (ps := ["symbols"]) F_stripped fun _ _ _ _ _ _ us hl => match us, hl with | [_], _ => rfl)⟩
  have G_moved : Cal P w K mg base 1 "moved" ["behind", "written", "ahead"] spMoved := ⟨_, _, (ok_moved F_moved T), He.glo_ok X G (c.fact 1 (f := .glo "moved") rfl), F_moved.kp, (FunD.bindsN (ps := ["behind", "written", "ahead"]) F_moved fun _ _ _ _ _ _ us hl => match us, hl with | [_, _, _], _ => rfl)⟩
  have G_Builder : Mak P w K mg base 1 (CB K) "Builder" ["self"] (spBInit K) := ⟨_, _, (ok_binit F_Builder_init T), He.mkr_ok (c.fact 27 (f := .mkr "Builder") rfl), He.glo_ok X G (c.fact 25 (f := .glo "Builder") rfl), (FunD.bindsN (ps := ["self"]) F_Builder_init fun _ _ _ _ _ _ us hl => match us, hl with | [_], _ => rfl)⟩
  have G_Builder_state : Met P w K mg base 1 (CB K) "state" ["self", "name"] (spState K) := ⟨_, _, (ok_bstate F_Builder_state T), He.meth_ok (c.fact 47 (f := .meth "Builder" "state") rfl), (FunD.bindsN (ps := ["self", "name"]) F_Builder_state fun _ _ _ _ _ _ us hl => match us, hl with | [_, _], _ => rfl)⟩
  have G_Builder_on : Met P w K mg base 2 (CB K) "on" ["self", "name", "sign", "written", "move", "following"] (spOn K) := ⟨_, _, (ok_bon F_Builder_on T (G_Builder_state := G_Builder_state)), He.meth_ok (c.fact 48 (f := .meth "Builder" "on") rfl), (FunD.bindsN (ps := ["self", "name", "sign", "written", "move", "following"]) F_Builder_on fun _ _ _ _ _ _ us hl => match us, hl with | [_, _, _, _, _, _], _ => rfl)⟩
  have G_Builder_keep : Met P w K mg base 3 (CB K) "keep" ["self", "name", "signs", "move", "following"] (spKeep K) := ⟨_, _, (ok_bkeep F_Builder_keep T (G_Builder_on := G_Builder_on)), He.meth_ok (c.fact 49 (f := .meth "Builder" "keep") rfl), (FunD.bindsN (ps := ["self", "name", "signs", "move", "following"]) F_Builder_keep fun _ _ _ _ _ _ us hl => match us, hl with | [_, _, _, _, _], _ => rfl)⟩
  have G_Builder_seek : Met P w K mg base 4 (CB K) "seek" ["self", "name", "sign", "move", "following"] (spSeek K) := ⟨_, _, (ok_bseek F_Builder_seek T (G_Builder_on := G_Builder_on) (G_Builder_keep := G_Builder_keep)), He.meth_ok (c.fact 50 (f := .meth "Builder" "seek") rfl), (FunD.bindsN (ps := ["self", "name", "sign", "move", "following"]) F_Builder_seek fun _ _ _ _ _ _ us hl => match us, hl with | [_, _, _, _, _], _ => rfl)⟩
  have G_write_reading : Cal P w K mg base 5 "write_reading" ["builder"] (spWR K readingB) := ⟨_, _, (ok_wread F_write_reading T (G_Builder_state := G_Builder_state) (G_Builder_on := G_Builder_on) (G_Builder_seek := G_Builder_seek)), He.glo_ok X G (c.fact 2 (f := .glo "write_reading") rfl), F_write_reading.kp, (FunD.bindsN (ps := ["builder"]) F_write_reading fun _ _ _ _ _ _ us hl => match us, hl with | [_], _ => rfl)⟩
  have G_write_writing : Cal P w K mg base 5 "write_writing" ["builder"] (spWR K writingB) := ⟨_, _, (ok_wwrite F_write_writing T (G_Builder_state := G_Builder_state) (G_Builder_keep := G_Builder_keep)), He.glo_ok X G (c.fact 3 (f := .glo "write_writing") rfl), F_write_writing.kp, (FunD.bindsN (ps := ["builder"]) F_write_writing fun _ _ _ _ _ _ us hl => match us, hl with | [_], _ => rfl)⟩
  have G_write_choosing : Cal P w K mg base 5 "write_choosing" ["builder", "sign"] (spWC K) := ⟨_, _, (ok_wchoose F_write_choosing T (G_Builder_on := G_Builder_on) (G_Builder_keep := G_Builder_keep) (G_Builder_seek := G_Builder_seek)), He.glo_ok X G (c.fact 4 (f := .glo "write_choosing") rfl), F_write_choosing.kp, (FunD.bindsN (ps := ["builder", "sign"]) F_write_choosing fun _ _ _ _ _ _ us hl => match us, hl with | [_, _], _ => rfl)⟩
  have G_write_moving : Cal P w K mg base 5 "write_moving" ["builder"] (spWR K movingB) := ⟨_, _, (ok_wmove F_write_moving T (G_Builder_on := G_Builder_on) (G_Builder_keep := G_Builder_keep)), He.glo_ok X G (c.fact 5 (f := .glo "write_moving") rfl), F_write_moving.kp, (FunD.bindsN (ps := ["builder"]) F_write_moving fun _ _ _ _ _ _ us hl => match us, hl with | [_], _ => rfl)⟩
  have G_Turing : Mak P w K mg base 1 (CT K) "Turing" ["self", "states", "symbols", "rules"] (spTInit K) := ⟨_, _, (ok_tinit F_Turing_init T), He.mkr_ok (c.fact 24 (f := .mkr "Turing") rfl), He.glo_ok X G (c.fact 22 (f := .glo "Turing") rfl), (FunD.bindsN (ps := ["self", "states", "symbols", "rules"]) F_Turing_init fun _ _ _ _ _ _ us hl => match us, hl with | [_, _, _, _], _ => rfl)⟩
  have G_Turing_rule : Met P w K mg base 1 (CT K) "rule" ["self", "state", "symbol"] (spRule K) := ⟨_, _, (ok_trule F_Turing_rule T), He.meth_ok (c.fact 45 (f := .meth "Turing" "rule") rfl), (FunD.bindsN (ps := ["self", "state", "symbol"]) F_Turing_rule fun _ _ _ _ _ _ us hl => match us, hl with | [_, _, _], _ => rfl)⟩
  have G_Turing_step : Met P w K mg base 2 (CT K) "step" ["self", "configuration"] (spStep K) := ⟨_, _, (ok_tstep F_Turing_step T (G_moved := G_moved)), He.meth_ok (c.fact 46 (f := .meth "Turing" "step") rfl), (FunD.bindsN (ps := ["self", "configuration"]) F_Turing_step fun _ _ _ _ _ _ us hl => match us, hl with | [_, _], _ => rfl)⟩
  have G_universal : Cal P w K mg base 6 "universal" [] (spUniv K) := ⟨_, _, (ok_univ F_universal T (G_Builder := G_Builder) (G_Turing := G_Turing) (G_write_reading := G_write_reading) (G_write_writing := G_write_writing) (G_write_choosing := G_write_choosing) (G_write_moving := G_write_moving)), He.glo_ok X G (c.fact 6 (f := .glo "universal") rfl), F_universal.kp, (FunD.bindsN (ps := []) F_universal fun _ _ _ _ _ _ us hl => match us, hl with | [], _ => rfl)⟩
  have G_ToUniversal_entry : Met P w K mg base 2 (CU K) "entry" ["self", "state", "symbol"] (spEntry K) := ⟨_, _, (ok_uentry F_ToUniversal_entry T (G_Turing_rule := G_Turing_rule)), He.meth_ok (c.fact 51 (f := .meth "ToUniversal" "entry") rfl), (FunD.bindsN (ps := ["self", "state", "symbol"]) F_ToUniversal_entry fun _ _ _ _ _ _ us hl => match us, hl with | [_, _, _], _ => rfl)⟩
  have G_ToUniversal : Mak P w K mg base 7 (CU K) "ToUniversal" ["self", "machine"] (spUInit K) := ⟨_, _, (ok_uinit F_ToUniversal_init T (G_universal := G_universal) (G_ToUniversal_entry := G_ToUniversal_entry)), He.mkr_ok (c.fact 30 (f := .mkr "ToUniversal") rfl), He.glo_ok X G (c.fact 28 (f := .glo "ToUniversal") rfl), (FunD.bindsN (ps := ["self", "machine"]) F_ToUniversal_init fun _ _ _ _ _ _ us hl => match us, hl with | [_, _], _ => rfl)⟩
  have G_ToUniversal_signs : Met P w K mg base 1 (CU K) "signs" ["self", "state"] (spSigns K) := ⟨_, _, (ok_usigns F_ToUniversal_signs T), He.meth_ok (c.fact 52 (f := .meth "ToUniversal" "signs") rfl), (FunD.bindsN (ps := ["self", "state"]) F_ToUniversal_signs fun _ _ _ _ _ _ us hl => match us, hl with | [_, _], _ => rfl)⟩
  have G_ToUniversal_picture : Met P w K mg base 2 (CU K) "picture" ["self", "configuration"] (spPic K) := ⟨_, _, (ok_upic F_ToUniversal_picture T (G_stripped := G_stripped) (G_ToUniversal_signs := G_ToUniversal_signs)), He.meth_ok (c.fact 53 (f := .meth "ToUniversal" "picture") rfl), (FunD.bindsN (ps := ["self", "configuration"]) F_ToUniversal_picture fun _ _ _ _ _ _ us hl => match us, hl with | [_, _], _ => rfl)⟩
  have G_ToUniversal_read_back : Met P w K mg base 2 (CU K) "read_back" ["self", "configuration"] (spRB K) := ⟨_, _, (ok_urb F_ToUniversal_read_back T (G_stripped := G_stripped)), He.meth_ok (c.fact 54 (f := .meth "ToUniversal" "read_back") rfl), (FunD.bindsN (ps := ["self", "configuration"]) F_ToUniversal_read_back fun _ _ _ _ _ _ us hl => match us, hl with | [_, _], _ => rfl)⟩
  have G_ToUniversal_steps_to_home : Met P w K mg base 3 (CU K) "steps_to_home" ["self", "configuration"] (spSteps K) := ⟨_, _, (ok_usteps F_ToUniversal_steps_to_home T (G_Turing_step := G_Turing_step) (G_ToUniversal_picture := G_ToUniversal_picture)), He.meth_ok (c.fact 55 (f := .meth "ToUniversal" "steps_to_home") rfl), (FunD.bindsN (ps := ["self", "configuration"]) F_ToUniversal_steps_to_home fun _ _ _ _ _ _ us hl => match us, hl with | [_, _], _ => rfl)⟩
  have G_ToUniversal_cost : Met P w K mg base 4 (CU K) "cost" ["self", "configuration"] (spSteps K) := ⟨_, _, (ok_ucost F_ToUniversal_cost T (G_ToUniversal_steps_to_home := G_ToUniversal_steps_to_home)), He.meth_ok (c.fact 56 (f := .meth "ToUniversal" "cost") rfl), (FunD.bindsN (ps := ["self", "configuration"]) F_ToUniversal_cost fun _ _ _ _ _ _ us hl => match us, hl with | [_, _], _ => rfl)⟩
  have G_ToUniversal_last_steps : Met P w K mg base 4 (CU K) "last_steps" ["self", "configuration"] (spSteps K) := ⟨_, _, (ok_ulast F_ToUniversal_last_steps T (G_ToUniversal_steps_to_home := G_ToUniversal_steps_to_home)), He.meth_ok (c.fact 57 (f := .meth "ToUniversal" "last_steps") rfl), (FunD.bindsN (ps := ["self", "configuration"]) F_ToUniversal_last_steps fun _ _ _ _ _ _ us hl => match us, hl with | [_, _], _ => rfl)⟩
  have G_law_is_count : Cal P w K mg base 1 "_law_is_count" ["_law_number", "_law_least"] spCount := ⟨_, _, (ok_lcount F_law_is_count T), He.glo_ok X G (c.fact 19 (f := .glo "_law_is_count") rfl), F_law_is_count.kp, (FunD.bindsN (ps := ["_law_number", "_law_least"]) F_law_is_count fun _ _ _ _ _ _ us hl => match us, hl with | [_, _], _ => rfl)⟩
  have G_law_cell : Cal P w K mg base 1 "_law_cell" ["_law_script", "_law_k"] (spCell K) := ⟨_, _, (ok_lcell F_law_cell T), He.glo_ok X G (c.fact 7 (f := .glo "_law_cell") rfl), F_law_cell.kp, (FunD.bindsN (ps := ["_law_script", "_law_k"]) F_law_cell fun _ _ _ _ _ _ us hl => match us, hl with | [_, _], _ => rfl)⟩
  have G_law_draws : Cal P w K mg base 1 "_law_draws" ["_law_cell_here", "_law_count"] spDraws := ⟨_, _, (ok_ldraws F_law_draws T), He.glo_ok X G (c.fact 8 (f := .glo "_law_draws") rfl), F_law_draws.kp, (FunD.bindsN (ps := ["_law_cell_here", "_law_count"]) F_law_draws fun _ _ _ _ _ _ us hl => match us, hl with | [_, _], _ => rfl)⟩
  have G_law_stripL : Cal P w K mg base 1 "_law_strip" ["_law_symbols"] spStrip := ⟨_, _, (ok_lstripL F_law_strip T), He.glo_ok X G (c.fact 10 (f := .glo "_law_strip") rfl), F_law_strip.kp, (FunD.bindsN (ps := ["_law_symbols"]) F_law_strip fun _ _ _ _ _ _ us hl => match us, hl with | [_], _ => rfl)⟩
  have G_law_stripT : Cal P w K mg base 1 "_law_strip" ["_law_symbols"] spLStripT := ⟨_, _, (ok_lstripT F_law_strip T), He.glo_ok X G (c.fact 10 (f := .glo "_law_strip") rfl), F_law_strip.kp, (FunD.bindsN (ps := ["_law_symbols"]) F_law_strip fun _ _ _ _ _ _ us hl => match us, hl with | [_], _ => rfl)⟩
  have G_law_tableL : Cal P w K mg base 1 "_law_table" ["_law_rules_here"] spTabL := ⟨_, _, (ok_ltableL F_law_table T), He.glo_ok X G (c.fact 14 (f := .glo "_law_table") rfl), F_law_table.kp, (FunD.bindsN (ps := ["_law_rules_here"]) F_law_table fun _ _ _ _ _ _ us hl => match us, hl with | [_], _ => rfl)⟩
  have G_law_tableT : Cal P w K mg base 1 "_law_table" ["_law_rules_here"] spTabT := ⟨_, _, (ok_ltableT F_law_table T), He.glo_ok X G (c.fact 14 (f := .glo "_law_table") rfl), F_law_table.kp, (FunD.bindsN (ps := ["_law_rules_here"]) F_law_table fun _ _ _ _ _ _ us hl => match us, hl with | [_], _ => rfl)⟩
  have G_law_turing_step : Cal P w K mg base 2 "_law_turing_step" ["_law_table_here", "_law_here"] spLStep := ⟨_, _, (ok_ltstep F_law_turing_step T (G_law_strip := G_law_stripT)), He.glo_ok X G (c.fact 13 (f := .glo "_law_turing_step") rfl), F_law_turing_step.kp, (FunD.bindsN (ps := ["_law_table_here", "_law_here"]) F_law_turing_step fun _ _ _ _ _ _ us hl => match us, hl with | [_, _], _ => rfl)⟩
  have G_law_rules : Cal P w K mg base 1 "_law_rules" ["_law_draws_here", "_law_states", "_law_symbols"] spLRules := ⟨_, _, (ok_lrules F_law_rules T), He.glo_ok X G (c.fact 11 (f := .glo "_law_rules") rfl), F_law_rules.kp, (FunD.bindsN (ps := ["_law_draws_here", "_law_states", "_law_symbols"]) F_law_rules fun _ _ _ _ _ _ us hl => match us, hl with | [_, _, _], _ => rfl)⟩
  have G_law_tape : Cal P w K mg base 2 "_law_tape" ["_law_draws_here", "_law_states", "_law_symbols", "_law_most"] spLTape := ⟨_, _, (ok_ltape F_law_tape T (G_law_strip := G_law_stripL)), He.glo_ok X G (c.fact 12 (f := .glo "_law_tape") rfl), F_law_tape.kp, (FunD.bindsN (ps := ["_law_draws_here", "_law_states", "_law_symbols", "_law_most"]) F_law_tape fun _ _ _ _ _ _ us hl => match us, hl with | [_, _, _, _], _ => rfl)⟩
  have G_like0 : Cal P w K mg base 1 "_law_like" ["_law_actual", "_law_due"] (spLk 0) := ⟨_, _, (ok_like0 F_law_like), He.glo_ok X G (c.fact 9 (f := .glo "_law_like") rfl), F_law_like.kp, (FunD.bindsN (ps := ["_law_actual", "_law_due"]) F_law_like fun _ _ _ _ _ _ us hl => match us, hl with | [_, _], _ => rfl)⟩
  have G_like1 : Cal P w K mg base 2 "_law_like" ["_law_actual", "_law_due"] (spLk 1) := ⟨_, _, (ok_like F_law_like T (G_law_like := G_like0)), He.glo_ok X G (c.fact 9 (f := .glo "_law_like") rfl), F_law_like.kp, (FunD.bindsN (ps := ["_law_actual", "_law_due"]) F_law_like fun _ _ _ _ _ _ us hl => match us, hl with | [_, _], _ => rfl)⟩
  have G_like2 : Cal P w K mg base 3 "_law_like" ["_law_actual", "_law_due"] (spLk 2) := ⟨_, _, (ok_like F_law_like T (G_law_like := G_like1)), He.glo_ok X G (c.fact 9 (f := .glo "_law_like") rfl), F_law_like.kp, (FunD.bindsN (ps := ["_law_actual", "_law_due"]) F_law_like fun _ _ _ _ _ _ us hl => match us, hl with | [_, _], _ => rfl)⟩
  have G_law_like : Cal P w K mg base 4 "_law_like" ["_law_actual", "_law_due"] (spLk 3) := ⟨_, _, (ok_like F_law_like T (G_law_like := G_like2)), He.glo_ok X G (c.fact 9 (f := .glo "_law_like") rfl), F_law_like.kp, (FunD.bindsN (ps := ["_law_actual", "_law_due"]) F_law_like fun _ _ _ _ _ _ us hl => match us, hl with | [_, _], _ => rfl)⟩
  have G_law_runner : Cal P w K mg base 2 "_law_runner" ["_law_target"] (spRunner K) := ⟨_, _, (ok_lrunner F_law_runner T (G_law_table := G_law_tableT)), He.glo_ok X G (c.fact 15 (f := .glo "_law_runner") rfl), F_law_runner.kp, (FunD.bindsN (ps := ["_law_target"]) F_law_runner fun _ _ _ _ _ _ us hl => match us, hl with | [_], _ => rfl)⟩
  have G_law_go : Cal P w K mg base 3 "_law_go" ["_law_runner_here", "_law_here"] spGo := ⟨_, _, (ok_lgo F_law_go T (G_law_turing_step := G_law_turing_step)), He.glo_ok X G (c.fact 16 (f := .glo "_law_go") rfl), F_law_go.kp, (FunD.bindsN (ps := ["_law_runner_here", "_law_here"]) F_law_go fun _ _ _ _ _ _ us hl => match us, hl with | [_, _], _ => rfl)⟩
  have G_law_many : Cal P w K mg base 4 "_law_many" ["_law_runner_here", "_law_here", "_law_count"] spMany := ⟨_, _, (ok_lmany F_law_many T (G_law_go := G_law_go)), He.glo_ok X G (c.fact 17 (f := .glo "_law_many") rfl), F_law_many.kp, (FunD.bindsN (ps := ["_law_runner_here", "_law_here", "_law_count"]) F_law_many fun _ _ _ _ _ _ us hl => match us, hl with | [_, _, _], _ => rfl)⟩
  have G_law_drawn_turing : Cal P w K mg base 3 "_law_drawn_turing" ["_law_cell_here", "_law_states", "_law_symbols"] (spDrawn K) := ⟨_, _, (ok_ldrawn F_law_drawn_turing T (G_law_draws := G_law_draws) (G_law_rules := G_law_rules) (G_law_table := G_law_tableL) (G_Turing := G_Turing)), He.glo_ok X G (c.fact 20 (f := .glo "_law_drawn_turing") rfl), F_law_drawn_turing.kp, (FunD.bindsN (ps := ["_law_cell_here", "_law_states", "_law_symbols"]) F_law_drawn_turing fun _ _ _ _ _ _ us hl => match us, hl with | [_, _, _], _ => rfl)⟩
  have G_law_follows : Cal P w K mg base 5 "_law_follows" ["_law_translation", "_law_source", "_law_begin", "_law_count", "_law_budget", "_law_exact"] (spFollows K) := ⟨_, _, (ok_lfollows F_law_follows T (G_law_runner := G_law_runner) (G_ToUniversal_picture := G_ToUniversal_picture) (G_law_like := G_law_like) (G_ToUniversal_read_back := G_ToUniversal_read_back) (G_law_go := G_law_go) (G_ToUniversal_last_steps := G_ToUniversal_last_steps) (G_ToUniversal_cost := G_ToUniversal_cost) (G_law_is_count := G_law_is_count) (G_law_many := G_law_many)), He.glo_ok X G (c.fact 18 (f := .glo "_law_follows") rfl), F_law_follows.kp, (FunD.bindsN (ps := ["_law_translation", "_law_source", "_law_begin", "_law_count", "_law_budget", "_law_exact"]) F_law_follows fun _ _ _ _ _ _ us hl => match us, hl with | [_, _, _, _, _, _], _ => rfl)⟩
  exact ok_llaw F_law T (G_law_draws := G_law_draws) (G_law_cell := G_law_cell) (G_law_drawn_turing := G_law_drawn_turing) (G_law_tape := G_law_tape) (G_ToUniversal := G_ToUniversal) (G_law_follows := G_law_follows)
end TH
open PySem PySem.W PySem.Calls PyProof.Rows
theorem PySem.Challenge.cw_translatory_k44_whole_the_universal_mach_holds : PySem.Challenge.rw_translatory_k44_whole_the_universal_mach.Holds := by
  w_on; o_law
  refine HandSHeadRun.head_any (r := OpenLaw.row PySem.Challenge.rw_translatory_k44_whole_the_universal_mach) (q := view (OpenLaw.row PySem.Challenge.rw_translatory_k44_whole_the_universal_mach).prog [71]) (H := TH.hk) (ob := TH.ob) (M := 6000) (loose := TH.loose) (d := HandSHeadRun.topDef (OpenLaw.row PySem.Challenge.rw_translatory_k44_whole_the_universal_mach).prog 71) (kwd := []) TH.ob_eq
    (by kernel_rfl) (fun s => by kernel_rfl) TH.run (by kernel_rfl) (by kernel_rfl) (by kernel_rfl) (by rfl) (by first | assumption | decide +kernel) (by decide +kernel) ⟨rfl, rfl, rfl, rfl, rfl, by decide +kernel⟩ ?hw ?hc
  case hw => w_witness2
  case hc =>
    refine L2.walk_ofE (l := PySem.Challenge.rw_translatory_k44_whole_the_universal_mach) (n := 63) (k := 9) (x := "_law_script") (CX := L2.CX0) rfl (by decide) (by kernel_rfl) ⟨rfl, by decide, by decide⟩ ?F (fun _ _ _ _ z => z)
    intro w mg fa h Y G hmg0
    obtain ⟨K, KX, c⟩ := Y
    have hmg : mg ("law" : PySem.Str) = some (.ref fa) := by
      have e : (HandSHeadRun.topDef (OpenLaw.row PySem.Challenge.rw_translatory_k44_whole_the_universal_mach).prog 71).name = ("law" : PySem.Str) := by kernel_rfl
      rw [← e]
      exact hmg0
    obtain ⟨fd, hb, hF⟩ := TH.facts (P := (PySem.Challenge.rw_translatory_k44_whole_the_universal_mach).prog) (w := w) KX G hmg c
    exact ⟨K, fd, TH.spLaw K, KX, hb, fun H a ns hl _ hS => ⟨a, ns, rfl, hS, fun _ => rfl⟩, hF⟩
