import PyProof.Rows.All
import Wide.All
import OpenK.AllK
import Wide.FinOn
import HandS.ForMost
import HandS.Exc
import HandS.TryOnly
import HandS.ExcOwn
import HandS.WordsExc
import HandS.Evl
import HandS.TupAny
import HandS.Deep
import HandS.Walk
import HandS.FStr
import HandS.Flow
import HandS.Conv
import HandS.Zip
import HandS.Rev
import HandS.IterVal
import HandS.Strs
import HandS.Wide
import KE.KDictKeyed
import KE.KeyNested
import KE.GoesMore
import KE.GoesEnum
import KE.KDictList
import KE.KDictDisplayH
import HandS.DictComp
import HandS.Head0
import HandS.Head1
import HandS.Head2
import HandS.HeadEnd
import HandS.HeadHook1
import HandS.HeadHook2
import HandS.Defaults
import PySem.Challenge.RW_maieutic_k72_whole_changed_machines
set_option Elab.async false
set_option linter.all false
set_option maxRecDepth 100000
set_option maxHeartbeats 4000000
/-! ## M0 -/
namespace Mai
/-! ### lists -/
def canon {α : Type} [DecidableEq α] (l : List α) : List Nat := l.map fun x => l.idxOf x
section
variable {α β : Type} [DecidableEq α] [DecidableEq β]
theorem canon_length (l : List α) : (canon l).length = l.length := by simp [canon]
theorem canon_get {l : List α} {i : Nat} (h : i < l.length) : (canon l)[i]'(by rw [canon_length]; exact h) = l.idxOf l[i] := by simp [canon]
theorem idxOf_get {l : List α} {x : α} (h : x ∈ l) : l[l.idxOf x]? = some x := by
  have hl := List.idxOf_lt_length_of_mem h
  rw [List.getElem?_eq_getElem hl, List.getElem_idxOf hl]
theorem idxOf_le {l : List α} {i : Nat} {x : α} (h : l[i]? = some x) : l.idxOf x ≤ i := by
  induction l generalizing i with
  | nil => simp at h
  | cons a l ih =>
    rw [List.idxOf_cons]
    by_cases e : a = x
    · simp [e]
    · have : (a == x) = false := by simpa using e
      rw [this]
      cases i with
      | zero => simp at h; exact absurd h e
      | succ i =>
        have := ih (i := i) (by simpa using h)
        simp
        omega
theorem idxOf_inj {l : List α} {x y : α} (hx : x ∈ l) (hy : y ∈ l) (e : l.idxOf x = l.idxOf y) : x = y := by
  have h1 := idxOf_get hx
  have h2 := idxOf_get hy
  rw [e, h2] at h1
  exact (Option.some.inj h1).symm
/-- the least place of an equal item: for lists alike in what is equal -/
theorem idxOf_alike : ∀ {l : List α} {l' : List β} {i : Nat} {x : α} {y : β}, l.length = l'.length → l[i]? = some x → l'[i]? = some y →
    (∀ (j : Nat) (a : α) (b : β), l[j]? = some a → l'[j]? = some b → (a = x ↔ b = y)) → l.idxOf x = l'.idxOf y
  | [], [], i, x, y, _, h, _, _ => by simp at h
  | [], _ :: _, _, _, _, h, _, _, _ => by simp at h
  | _ :: _, [], _, _, _, h, _, _, _ => by simp at h
  | a :: l, b :: l', i, x, y, hl, h1, h2, h => by
    have h0 := h 0 a b rfl rfl
    rw [List.idxOf_cons, List.idxOf_cons]
    by_cases e : a = x
    · have e2 := h0.mp e
      simp [e, e2]
    · have e2 : ¬ b = y := fun q => e (h0.mpr q)
      have b1 : (a == x) = false := by simpa using e
      have b2 : (b == y) = false := by simpa using e2
      rw [b1, b2]
      cases i with
      | zero => simp at h1; exact absurd h1 e
      | succ i =>
        have := idxOf_alike (l := l) (l' := l') (i := i) (x := x) (y := y) (by simpa using hl) (by simpa using h1) (by simpa using h2) (fun j a b ha hb => h (j + 1) a b (by simpa using ha) (by simpa using hb))
        simp [this]
theorem canon_alike {l : List α} {l' : List β} (hl : l.length = l'.length)
    (h : ∀ (i j : Nat) (a b : α) (a' b' : β), l[i]? = some a → l[j]? = some b → l'[i]? = some a' → l'[j]? = some b' → (a = b ↔ a' = b')) : canon l = canon l' := by
  apply List.ext_getElem
  · simp [canon_length, hl]
  · intro i h1 h2
    have i1 : i < l.length := by rw [canon_length] at h1; exact h1
    have i2 : i < l'.length := by rw [canon_length] at h2; exact h2
    rw [canon_get i1, canon_get i2]
    refine idxOf_alike (i := i) hl (List.getElem?_eq_getElem i1) (List.getElem?_eq_getElem i2) fun j a b ha hb => ?_
    exact h j i a l[i] b l'[i] ha (List.getElem?_eq_getElem i1) hb (List.getElem?_eq_getElem i2)
theorem canon_eq {l : List α} {i j : Nat} (hi : i < l.length) (hj : j < l.length) : (canon l).getD i 0 = (canon l).getD j 0 ↔ l[i] = l[j] := by
  have ci : i < (canon l).length := by rw [canon_length]; exact hi
  have cj : j < (canon l).length := by rw [canon_length]; exact hj
  rw [List.getD_eq_getElem?_getD, List.getD_eq_getElem?_getD, List.getElem?_eq_getElem ci, List.getElem?_eq_getElem cj]
  simp only [Option.getD_some]
  rw [canon_get hi, canon_get hj]
  constructor
  · intro e
    exact idxOf_inj (List.getElem_mem hi) (List.getElem_mem hj) e
  · intro e
    rw [e]
theorem canon_self {l : List α} {i : Nat} (hi : i < l.length) : (canon l).getD i 0 ≤ i ∧ ∃ h : (canon l).getD i 0 < l.length, l[(canon l).getD i 0] = l[i] := by
  have ci : i < (canon l).length := by rw [canon_length]; exact hi
  have e : (canon l).getD i 0 = l.idxOf l[i] := by
    rw [List.getD_eq_getElem?_getD, List.getElem?_eq_getElem ci]
    simp only [Option.getD_some]
    exact canon_get hi
  rw [e]
  refine ⟨idxOf_le (List.getElem?_eq_getElem hi), List.idxOf_lt_length_of_mem (List.getElem_mem hi), ?_⟩
  exact List.getElem_idxOf _
end
/-! ### machines -/
abbrev Word := List Nat
structure Mach where
  k : Nat
  o : Nat
  mv : List (List Nat)
  ou : List Nat
  deriving DecidableEq
namespace Mach
def n (m : Mach) : Nat := m.ou.length
def row (m : Mach) (s : Nat) : List Nat := m.mv.getD s []
def step (m : Mach) (s a : Nat) : Nat := (m.row s).getD a 0
def run (m : Mach) (s : Nat) (w : Word) : Nat := w.foldl m.step s
def at_ (m : Mach) (s : Nat) : Nat := m.ou.getD s 0
def out (m : Mach) (s : Nat) (w : Word) : Nat := m.at_ (m.run s w)
structure WF (m : Mach) : Prop where
  k1 : 1 ≤ m.k
  k4 : m.k ≤ 4
  o1 : 1 ≤ m.o
  o6 : m.o ≤ 6
  n1 : 1 ≤ m.ou.length
  n30 : m.ou.length ≤ 30
  len : m.mv.length = m.ou.length
  rows : ∀ r ∈ m.mv, r.length = m.k ∧ ∀ t ∈ r, t < m.ou.length
  ous : ∀ x ∈ m.ou, x < m.o
end Mach
def okw (k : Nat) (w : Word) : Prop := ∀ a ∈ w, a < k
theorem okw_nil (k : Nat) : okw k [] := fun _ h => nomatch h
theorem okw_cons {k a : Nat} {w : Word} : okw k (a :: w) ↔ a < k ∧ okw k w := by simp [okw]
theorem okw_app {k : Nat} {v w : Word} : okw k (v ++ w) ↔ okw k v ∧ okw k w := by
  simp only [okw, List.mem_append]
  constructor
  · intro h
    exact ⟨fun a ha => h a (.inl ha), fun a ha => h a (.inr ha)⟩
  · intro ⟨h1, h2⟩ a ha
    exact ha.elim (h1 a) (h2 a)
namespace Mach
variable {m m' : Mach}
theorem WF.row (h : m.WF) {s : Nat} (hs : s < m.n) : (m.row s).length = m.k ∧ ∀ t ∈ m.row s, t < m.n := by
  have hl : s < m.mv.length := by rw [h.len]; exact hs
  have e : m.row s = m.mv[s] := by
    unfold Mach.row
    rw [List.getD_eq_getElem?_getD, List.getElem?_eq_getElem hl]
    rfl
  rw [e]
  exact h.rows _ (List.getElem_mem hl)
theorem WF.step (h : m.WF) {s a : Nat} (hs : s < m.n) (ha : a < m.k) : m.step s a < m.n := by
  obtain ⟨h1, h2⟩ := h.row hs
  unfold Mach.step
  have hl : a < (m.row s).length := by rw [h1]; exact ha
  rw [List.getD_eq_getElem?_getD, List.getElem?_eq_getElem hl]
  exact h2 _ (List.getElem_mem hl)
theorem WF.n0 (h : m.WF) : 0 < m.n := h.n1
theorem run_nil (s : Nat) : m.run s [] = s := rfl
theorem run_cons (s a : Nat) (w : Word) : m.run s (a :: w) = m.run (m.step s a) w := rfl
theorem run_app (s : Nat) (v w : Word) : m.run s (v ++ w) = m.run (m.run s v) w := by simp [run, List.foldl_append]
theorem out_cons (s a : Nat) (w : Word) : m.out s (a :: w) = m.out (m.step s a) w := rfl
theorem out_app (s : Nat) (v w : Word) : m.out s (v ++ w) = m.out (m.run s v) w := by unfold out; rw [run_app]
theorem WF.run (h : m.WF) : ∀ {w : Word} {s : Nat}, s < m.n → okw m.k w → m.run s w < m.n
  | [], s, hs, _ => hs
  | a :: w, s, hs, hw => by
    rw [okw_cons] at hw
    rw [run_cons]
    exact h.run (h.step hs hw.1) hw.2
theorem WF.at_lt (h : m.WF) {s : Nat} (hs : s < m.n) : m.at_ s < m.o := by
  unfold at_
  rw [List.getD_eq_getElem?_getD, List.getElem?_eq_getElem hs]
  exact h.ous _ (List.getElem_mem hs)
/-! ### refinement -/
def sign (m : Mach) (g : List Nat) (s : Nat) : Nat × List Nat := (g.getD s 0, (m.row s).map fun t => g.getD t 0)
def signs (m : Mach) (g : List Nat) : List (Nat × List Nat) := (List.range m.n).map (m.sign g)
def refined (m : Mach) (g : List Nat) : List Nat := canon (m.signs g)
def clsN (m : Mach) : Nat → List Nat
  | 0 => canon m.ou
  | j + 1 => m.refined (m.clsN j)
def cls (m : Mach) : List Nat := m.clsN m.n
def lawN (m : Mach) : Nat → List Nat
  | 0 => m.ou
  | j + 1 => m.refined (m.lawN j)
theorem signs_length (g : List Nat) : (m.signs g).length = m.n := by simp [signs]
theorem clsN_length (m : Mach) (j : Nat) : (m.clsN j).length = m.n := by
  cases j with
  | zero => exact canon_length _
  | succ j => exact (canon_length _).trans (signs_length _)
theorem lawN_length (m : Mach) (j : Nat) : (m.lawN j).length = m.n := by
  cases j with
  | zero => rfl
  | succ j => exact (canon_length _).trans (signs_length _)
theorem signs_get {g : List Nat} {s : Nat} (hs : s < m.n) : (m.signs g)[s]'(by rw [signs_length]; exact hs) = m.sign g s := by simp [signs]
/-- alike up to words of j letters -/
def Alk (m : Mach) (j s t : Nat) : Prop := ∀ w : Word, okw m.k w → w.length ≤ j → m.out s w = m.out t w
theorem alk_mono {i j s t : Nat} (h : i ≤ j) (a : m.Alk j s t) : m.Alk i s t := fun w hw hl => a w hw (Nat.le_trans hl h)
theorem alk_succ {j s t : Nat} : m.Alk (j + 1) s t ↔ m.Alk j s t ∧ ∀ a, a < m.k → m.Alk j (m.step s a) (m.step t a) := by
  constructor
  · intro h
    exact ⟨alk_mono (Nat.le_succ j) h, fun a ha w hw hl => h (a :: w) (okw_cons.mpr ⟨ha, hw⟩) (by simpa using hl)⟩
  · intro ⟨h1, h2⟩ w hw hl
    cases w with
    | nil => exact h1 [] hw (Nat.zero_le _)
    | cons a w =>
      rw [okw_cons] at hw
      exact h2 a hw.1 w hw.2 (by simpa using hl)
theorem row_map_eq (h : m.WF) {g : List Nat} {s t : Nat} (hs : s < m.n) (ht : t < m.n) : ((m.row s).map fun x => g.getD x 0) = ((m.row t).map fun x => g.getD x 0) ↔ ∀ a, a < m.k → g.getD (m.step s a) 0 = g.getD (m.step t a) 0 := by
  have r1 := (h.row hs).1
  have r2 := (h.row ht).1
  have gs : ∀ (u a : Nat), (m.row u).length = m.k → a < m.k → ∃ q : a < (m.row u).length, m.step u a = (m.row u)[a] := fun u a e ha => by
    have q : a < (m.row u).length := by rw [e]; exact ha
    refine ⟨q, ?_⟩
    unfold Mach.step
    rw [List.getD_eq_getElem?_getD, List.getElem?_eq_getElem q]
    rfl
  constructor
  · intro e a ha
    obtain ⟨q1, e1⟩ := gs s a r1 ha
    obtain ⟨q2, e2⟩ := gs t a r2 ha
    have z := congrArg (fun l => l[a]?) e
    simp only [List.getElem?_map, List.getElem?_eq_getElem q1, List.getElem?_eq_getElem q2, Option.map_some, Option.some.injEq] at z
    rw [e1, e2]
    exact z
  · intro e
    apply List.ext_getElem
    · simp [r1, r2]
    · intro a h1 h2
      have ha : a < m.k := by rw [List.length_map, r1] at h1; exact h1
      obtain ⟨q1, e1⟩ := gs s a r1 ha
      obtain ⟨q2, e2⟩ := gs t a r2 ha
      rw [List.getElem_map, List.getElem_map, ← e1, ← e2]
      exact e a ha
theorem refined_eq (h : m.WF) {g : List Nat} {s t : Nat} (hs : s < m.n) (ht : t < m.n) : (m.refined g).getD s 0 = (m.refined g).getD t 0 ↔ g.getD s 0 = g.getD t 0 ∧ ∀ a, a < m.k → g.getD (m.step s a) 0 = g.getD (m.step t a) 0 := by
  unfold refined
  rw [canon_eq (by rw [signs_length]; exact hs) (by rw [signs_length]; exact ht), signs_get hs, signs_get ht]
  unfold sign
  rw [Prod.mk.injEq, row_map_eq h hs ht]
theorem clsN_alk (h : m.WF) : ∀ (j : Nat) {s t : Nat}, s < m.n → t < m.n → ((m.clsN j).getD s 0 = (m.clsN j).getD t 0 ↔ m.Alk j s t)
  | 0, s, t, hs, ht => by
    show (canon m.ou).getD s 0 = (canon m.ou).getD t 0 ↔ _
    have hs' : s < m.ou.length := hs
    have ht' : t < m.ou.length := ht
    rw [canon_eq hs' ht']
    constructor
    · intro e w _ hl
      have : w = [] := List.length_eq_zero_iff.mp (Nat.le_zero.mp hl)
      subst this
      show m.at_ s = m.at_ t
      unfold at_
      rw [List.getD_eq_getElem?_getD, List.getD_eq_getElem?_getD, List.getElem?_eq_getElem hs', List.getElem?_eq_getElem ht', e]
    · intro e
      have z : m.at_ s = m.at_ t := e [] (okw_nil _) (Nat.le_refl 0)
      unfold at_ at z
      rw [List.getD_eq_getElem?_getD, List.getD_eq_getElem?_getD, List.getElem?_eq_getElem hs', List.getElem?_eq_getElem ht'] at z
      exact z
  | j + 1, s, t, hs, ht => by
    show (m.refined (m.clsN j)).getD s 0 = (m.refined (m.clsN j)).getD t 0 ↔ _
    rw [refined_eq h hs ht, alk_succ, clsN_alk h j hs ht]
    constructor
    · intro ⟨h1, h2⟩
      exact ⟨h1, fun a ha => (clsN_alk h j (h.step hs ha) (h.step ht ha)).mp (h2 a ha)⟩
    · intro ⟨h1, h2⟩
      exact ⟨h1, fun a ha => (clsN_alk h j (h.step hs ha) (h.step ht ha)).mpr (h2 a ha)⟩
theorem clsN_rep (h : m.WF) (j : Nat) {s : Nat} (hs : s < m.n) : (m.clsN j).getD s 0 ≤ s ∧ m.Alk j ((m.clsN j).getD s 0) s := by
  have le : (m.clsN j).getD s 0 ≤ s ∧ (m.clsN j).getD ((m.clsN j).getD s 0) 0 = (m.clsN j).getD s 0 := by
    cases j with
    | zero =>
      have hs' : s < m.ou.length := hs
      obtain ⟨h1, h2, h3⟩ := canon_self hs'
      exact ⟨h1, (canon_eq h2 hs').mpr h3⟩
    | succ j =>
      have hs' : s < (m.signs (m.clsN j)).length := by rw [signs_length]; exact hs
      obtain ⟨h1, h2, h3⟩ := canon_self hs'
      exact ⟨h1, (canon_eq h2 hs').mpr h3⟩
  exact ⟨le.1, (clsN_alk h j (Nat.lt_of_le_of_lt le.1 hs) hs).mp le.2⟩
theorem alk_symm {j s t : Nat} (a : m.Alk j s t) : m.Alk j t s := fun w hw hl => (a w hw hl).symm
theorem alk_trans {j s t u : Nat} (a : m.Alk j s t) (b : m.Alk j t u) : m.Alk j s u := fun w hw hl => (a w hw hl).trans (b w hw hl)
/-! ### it is stable in time -/
def fix (m : Mach) (j s : Nat) : Bool := (m.clsN j).getD s 0 == s
theorem fix_succ (h : m.WF) {j s : Nat} (hs : s < m.n) (e : m.fix j s = true) : m.fix (j + 1) s = true := by
  have e1 : (m.clsN j).getD s 0 = s := beq_iff_eq.mp e
  obtain ⟨l, a⟩ := clsN_rep h (j + 1) hs
  have a' := alk_mono (Nat.le_succ j) a
  have e2 := (clsN_alk h j (Nat.lt_of_le_of_lt l hs) hs).mpr a'
  rw [e1] at e2
  have l2 := (clsN_rep h j (Nat.lt_of_le_of_lt l hs)).1
  rw [e2] at l2
  exact beq_iff_eq.mpr (Nat.le_antisymm l l2)
def cnt (m : Mach) (j : Nat) : Nat := (List.range m.n).countP (m.fix j)
theorem countP_lt {α : Type} {p q : α → Bool} : ∀ {l : List α}, (∀ x ∈ l, p x = true → q x = true) → (∃ x ∈ l, q x = true ∧ ¬ p x = true) → l.countP p < l.countP q
  | [], _, ⟨x, hx, _⟩ => nomatch hx
  | a :: l, h, ⟨x, hx, hq, hp⟩ => by
    have hm : l.countP p ≤ l.countP q := List.countP_mono_left fun y hy => h y (List.mem_cons_of_mem _ hy)
    rw [List.countP_cons, List.countP_cons]
    rcases List.mem_cons.mp hx with e | hx
    · subst e
      rw [if_neg hp, if_pos hq]
      omega
    · have ih := countP_lt (p := p) (q := q) (l := l) (fun y hy => h y (List.mem_cons_of_mem _ hy)) ⟨x, hx, hq, hp⟩
      have ha := h a List.mem_cons_self
      by_cases c : p a = true
      · rw [if_pos c, if_pos (ha c)]
        omega
      · rw [if_neg c]
        omega
/-- equal fixed points at j and j + 1: nothing changes any more -/
theorem stable_of (h : m.WF) {j : Nat} (e : ∀ s, s < m.n → m.fix (j + 1) s = true → m.fix j s = true) {s t : Nat} (hs : s < m.n) (ht : t < m.n) (a : m.Alk j s t) : m.Alk (j + 1) s t := by
  have one : ∀ {u : Nat}, u < m.n → (m.clsN (j + 1)).getD u 0 = (m.clsN j).getD u 0 := fun {u} hu => by
    obtain ⟨l, b⟩ := clsN_rep h (j + 1) hu
    have hl := Nat.lt_of_le_of_lt l hu
    have f1 : m.fix (j + 1) ((m.clsN (j + 1)).getD u 0) = true := beq_iff_eq.mpr ((clsN_alk h (j + 1) hl hu).mpr b)
    have f0 := beq_iff_eq.mp (e _ hl f1)
    have e2 := (clsN_alk h j hl hu).mpr (alk_mono (Nat.le_succ j) b)
    rw [f0] at e2
    exact e2
  have z := (clsN_alk h j hs ht).mpr a
  rw [← one hs, ← one ht] at z
  exact (clsN_alk h (j + 1) hs ht).mp z
theorem stable_up (h : m.WF) {j : Nat} (st : ∀ s t, s < m.n → t < m.n → m.Alk j s t → m.Alk (j + 1) s t) : ∀ (i : Nat) {s t : Nat}, s < m.n → t < m.n → m.Alk j s t → m.Alk (j + i) s t
  | 0, _, _, _, _, a => a
  | i + 1, s, t, hs, ht, a => by
    have a1 := alk_succ.mp (st s t hs ht a)
    have ih := stable_up h st i hs ht a
    refine alk_succ.mpr ⟨ih, fun b hb => ?_⟩
    exact stable_up h st i (h.step hs hb) (h.step ht hb) (a1.2 b hb)
theorem stable_n (h : m.WF) : ∃ j, j ≤ m.n ∧ ∀ s t, s < m.n → t < m.n → m.Alk j s t → m.Alk (j + 1) s t := by
  by_cases c : ∃ j, j ≤ m.n ∧ ∀ s, s < m.n → m.fix (j + 1) s = true → m.fix j s = true
  · obtain ⟨j, hj, e⟩ := c
    exact ⟨j, hj, fun s t hs ht a => stable_of h e hs ht a⟩
  · exfalso
    have grow : ∀ j, j ≤ m.n → m.cnt j < m.cnt (j + 1) := fun j hj => by
      refine countP_lt (fun x hx => fix_succ h (List.mem_range.mp hx)) ?_
      refine Classical.byContradiction fun z => c ⟨j, hj, fun s hs f => Classical.byContradiction fun g => z ⟨s, List.mem_range.mpr hs, f, g⟩⟩
    have all : ∀ j, j ≤ m.n + 1 → j ≤ m.cnt j := fun j => by
      induction j with
      | zero => intro _; exact Nat.zero_le _
      | succ j ih =>
        intro hj
        have := ih (by omega)
        have := grow j (by omega)
        omega
    have h1 := all (m.n + 1) (Nat.le_refl _)
    have h2 : m.cnt (m.n + 1) ≤ m.n := by
      unfold cnt
      have := List.countP_le_length (p := m.fix (m.n + 1)) (l := List.range m.n)
      rw [List.length_range] at this
      exact this
    omega
/-- s of m and t of m' answer alike -/
def Eqv (m : Mach) (s : Nat) (m' : Mach) (t : Nat) : Prop := ∀ w : Word, okw m.k w → m.out s w = m'.out t w
theorem cls_iff (h : m.WF) {s t : Nat} (hs : s < m.n) (ht : t < m.n) : m.cls.getD s 0 = m.cls.getD t 0 ↔ Eqv m s m t := by
  unfold cls
  rw [clsN_alk h m.n hs ht]
  constructor
  · intro a w hw
    obtain ⟨j, hj, st⟩ := stable_n h
    have b := stable_up h st w.length hs ht (alk_mono hj a)
    exact b w hw (by omega)
  · intro e w hw _
    exact e w hw
theorem cls_rep (h : m.WF) {s : Nat} (hs : s < m.n) : m.cls.getD s 0 < m.n ∧ m.cls.getD (m.cls.getD s 0) 0 = m.cls.getD s 0 ∧ Eqv m (m.cls.getD s 0) m s := by
  obtain ⟨l, a⟩ := clsN_rep h m.n hs
  have hl := Nat.lt_of_le_of_lt l hs
  have e := (clsN_alk h m.n hl hs).mpr a
  exact ⟨hl, e, (cls_iff h hl hs).mp e⟩
/-- the law's way to the classes -/
theorem refined_alike (h : m.WF) {g g' : List Nat} (e : ∀ s t, s < m.n → t < m.n → (g.getD s 0 = g.getD t 0 ↔ g'.getD s 0 = g'.getD t 0)) : m.refined g = m.refined g' := by
  unfold refined
  refine canon_alike (by rw [signs_length, signs_length]) fun i j a b a' b' ha hb ha' hb' => ?_
  obtain ⟨i1, rfl⟩ := List.getElem?_eq_some_iff.mp ha
  obtain ⟨j1, rfl⟩ := List.getElem?_eq_some_iff.mp hb
  obtain ⟨i2, rfl⟩ := List.getElem?_eq_some_iff.mp ha'
  obtain ⟨j2, rfl⟩ := List.getElem?_eq_some_iff.mp hb'
  rw [signs_length] at i1 j1
  rw [signs_get i1, signs_get j1, signs_get i1, signs_get j1]
  unfold sign
  rw [Prod.mk.injEq, Prod.mk.injEq, row_map_eq h i1 j1, row_map_eq h i1 j1, e i j i1 j1]
  constructor
  · intro ⟨h1, h2⟩
    exact ⟨h1, fun a ha => (e _ _ (h.step i1 ha) (h.step j1 ha)).mp (h2 a ha)⟩
  · intro ⟨h1, h2⟩
    exact ⟨h1, fun a ha => (e _ _ (h.step i1 ha) (h.step j1 ha)).mpr (h2 a ha)⟩
theorem lawN_succ (h : m.WF) : ∀ j : Nat, m.lawN (j + 1) = m.clsN (j + 1)
  | 0 => by
    show m.refined m.ou = m.refined (canon m.ou)
    refine refined_alike h fun s t hs ht => ?_
    have hs' : s < m.ou.length := hs
    have ht' : t < m.ou.length := ht
    rw [canon_eq hs' ht', List.getD_eq_getElem?_getD, List.getD_eq_getElem?_getD, List.getElem?_eq_getElem hs', List.getElem?_eq_getElem ht']
    rfl
  | j + 1 => by
    show m.refined (m.lawN (j + 1)) = m.refined (m.clsN (j + 1))
    rw [lawN_succ h j]
theorem lawN_n (h : m.WF) : m.lawN m.n = m.cls := by
  have := h.n0
  obtain ⟨j, e⟩ : ∃ j, m.n = j + 1 := ⟨m.n - 1, by omega⟩
  unfold cls
  rw [e]
  exact lawN_succ h j
end Mach
end Mai
/-! ## M1 -/
namespace Mai
namespace Mach
variable {m m' : Mach}
/-! ### the order in which classes are met -/
def metRow (g : List Nat) (order row : List Nat) : List Nat := row.foldl (fun o t => if g.getD t 0 ∈ o then o else o ++ [g.getD t 0]) order
def metLoop (m : Mach) (g : List Nat) : Nat → Nat → List Nat → List Nat
  | 0, _, order => order
  | f + 1, i, order => if i < order.length then metLoop m g f (i + 1) (metRow g order (m.row (order.getD i 0))) else order
def met (m : Mach) (g : List Nat) : List Nat := m.metLoop g 31 0 [g.getD 0 0]
def leastBy (m : Mach) (g order : List Nat) : Mach :=
  ⟨m.k, m.o, order.map fun s => (m.row s).map fun t => order.idxOf (g.getD t 0), order.map fun s => m.at_ s⟩
def least (m : Mach) : Mach := m.leastBy m.cls (m.met m.cls)
/-- what is true of the order while it grows: representatives, each once -/
structure OrdOk (m : Mach) (o : List Nat) : Prop where
  rep : ∀ x ∈ o, x < m.n ∧ m.cls.getD x 0 = x
  nd : o.Nodup
theorem Eqv.refl (m : Mach) (s : Nat) : Eqv m s m s := fun _ _ => rfl
theorem Eqv.symm {s t : Nat} (hk : m.k = m'.k) (e : Eqv m s m' t) : Eqv m' t m s := fun w hw => (e w (by rw [hk]; exact hw)).symm
theorem Eqv.trans {m'' : Mach} {s t u : Nat} (hk : m.k = m'.k) (e : Eqv m s m' t) (f : Eqv m' t m'' u) : Eqv m s m'' u := fun w hw => (e w hw).trans (f w (by rw [← hk]; exact hw))
theorem Eqv.step {s t a : Nat} (e : Eqv m s m' t) (ha : a < m.k) : Eqv m (m.step s a) m' (m'.step t a) := fun w hw => e (a :: w) (okw_cons.mpr ⟨ha, hw⟩)
theorem rep_ok (h : m.WF) {s : Nat} (hs : s < m.n) : m.cls.getD s 0 < m.n ∧ m.cls.getD (m.cls.getD s 0) 0 = m.cls.getD s 0 := ⟨(cls_rep h hs).1, (cls_rep h hs).2.1⟩
theorem snoc_nodup {α : Type} {l : List α} {x : α} (h : l.Nodup) (hx : x ∉ l) : (l ++ [x]).Nodup := by
  rw [List.nodup_append]
  refine ⟨h, by simp, fun a ha b hb => ?_⟩
  have : b = x := by simpa using hb
  subst this
  rintro rfl
  exact hx ha
theorem OrdOk.put (h : m.WF) {o : List Nat} (ok : m.OrdOk o) {t : Nat} (ht : t < m.n) : m.OrdOk (if m.cls.getD t 0 ∈ o then o else o ++ [m.cls.getD t 0]) := by
  by_cases c : m.cls.getD t 0 ∈ o
  · rw [if_pos c]; exact ok
  · rw [if_neg c]
    refine ⟨fun x hx => ?_, snoc_nodup ok.nd c⟩
    rcases List.mem_append.mp hx with hx | hx
    · exact ok.rep x hx
    · have : x = m.cls.getD t 0 := by simpa using hx
      rw [this]
      exact rep_ok h ht
theorem metRow_cons (g o : List Nat) (t : Nat) (r : List Nat) : metRow g o (t :: r) = metRow g (if g.getD t 0 ∈ o then o else o ++ [g.getD t 0]) r := rfl
theorem metRow_snoc (g o : List Nat) (r : List Nat) (t : Nat) : metRow g o (r ++ [t]) = if g.getD t 0 ∈ metRow g o r then metRow g o r else metRow g o r ++ [g.getD t 0] := by
  unfold metRow
  rw [List.foldl_append]
  rfl
theorem OrdOk.row (h : m.WF) : ∀ {r o : List Nat}, m.OrdOk o → (∀ t ∈ r, t < m.n) → m.OrdOk (metRow m.cls o r)
  | [], _, ok, _ => ok
  | t :: r, o, ok, hr => by
    rw [metRow_cons]
    exact OrdOk.row h (ok.put h (hr t List.mem_cons_self)) fun t' ht' => hr t' (List.mem_cons_of_mem _ ht')
theorem metRow_pre (g : List Nat) : ∀ (r o : List Nat), ∃ x, metRow g o r = o ++ x
  | [], o => ⟨[], by simp [metRow]⟩
  | t :: r, o => by
    rw [metRow_cons]
    obtain ⟨x, e⟩ := metRow_pre g r (if g.getD t 0 ∈ o then o else o ++ [g.getD t 0])
    rw [e]
    by_cases c : g.getD t 0 ∈ o
    · rw [if_pos c]; exact ⟨x, rfl⟩
    · rw [if_neg c]; exact ⟨g.getD t 0 :: x, by simp⟩
theorem metRow_has (g : List Nat) : ∀ (r o : List Nat) {t : Nat}, t ∈ r → g.getD t 0 ∈ metRow g o r
  | t' :: r, o, t, ht => by
    rw [metRow_cons]
    rcases List.mem_cons.mp ht with e | ht
    · subst e
      obtain ⟨x, e⟩ := metRow_pre g r (if g.getD t 0 ∈ o then o else o ++ [g.getD t 0])
      rw [e]
      refine List.mem_append_left _ ?_
      by_cases c : g.getD t 0 ∈ o
      · rw [if_pos c]; exact c
      · rw [if_neg c]; simp
    · exact metRow_has g r _ ht
theorem nodup_lt {l : List Nat} {n : Nat} (h : l.Nodup) (hl : ∀ x ∈ l, x < n) : l.length ≤ n := by
  have key : ∀ (n : Nat) (l : List Nat), l.Nodup → (∀ x ∈ l, x < n) → l.length ≤ n := fun n => by
    induction n with
    | zero =>
      intro l _ hl
      cases l with
      | nil => exact Nat.le_refl _
      | cons a l => exact absurd (hl a List.mem_cons_self) (Nat.not_lt_zero _)
    | succ n ih =>
      intro l h hl
      by_cases c : n ∈ l
      · have h1 : (l.erase n).length = l.length - 1 := List.length_erase_of_mem c
        have h2 := ih (l.erase n) (h.erase n) fun x hx => by
          have hm := List.mem_of_mem_erase hx
          have hne : x ≠ n := fun e => by
            subst e
            exact (List.Nodup.not_mem_erase h) hx
          have := hl x hm
          omega
        omega
      · have h2 := ih l h fun x hx => by
          have := hl x hx
          have hne : x ≠ n := fun e => c (e ▸ hx)
          omega
        omega
  exact key n l h hl
theorem OrdOk.le {o : List Nat} (ok : m.OrdOk o) : o.length ≤ m.n := nodup_lt ok.nd fun x hx => (ok.rep x hx).1
/-- behind the loop: the order is closed -/
theorem metLoop_end (h : m.WF) : ∀ (f i : Nat) (o : List Nat), m.OrdOk o → i ≤ o.length → m.n < f + i →
    (∀ j, j < i → ∀ t ∈ m.row (o.getD j 0), m.cls.getD t 0 ∈ o) →
    m.OrdOk (m.metLoop m.cls f i o) ∧ (∃ x, m.metLoop m.cls f i o = o ++ x) ∧ ∀ s ∈ m.metLoop m.cls f i o, ∀ t ∈ m.row s, m.cls.getD t 0 ∈ m.metLoop m.cls f i o
  | 0, i, o, ok, hi, hf, _ => by
    have := ok.le
    omega
  | f + 1, i, o, ok, hi, hf, cl => by
    unfold metLoop
    by_cases c : i < o.length
    · rw [if_pos c]
      have hs : o.getD i 0 < m.n ∧ m.cls.getD (o.getD i 0) 0 = o.getD i 0 := by
        rw [List.getD_eq_getElem?_getD, List.getElem?_eq_getElem c]
        exact ok.rep _ (List.getElem_mem c)
      have ok2 := ok.row h (r := m.row (o.getD i 0)) (h.row hs.1).2
      obtain ⟨x, e⟩ := metRow_pre m.cls (m.row (o.getD i 0)) o
      have old : ∀ j, j < o.length → (metRow m.cls o (m.row (o.getD i 0))).getD j 0 = o.getD j 0 := fun j hj => by
        rw [e, List.getD_eq_getElem?_getD, List.getD_eq_getElem?_getD, List.getElem?_append_left hj]
      obtain ⟨a, ⟨y, b⟩, d⟩ := metLoop_end h f (i + 1) (metRow m.cls o (m.row (o.getD i 0))) ok2 (by rw [e, List.length_append]; omega) (by omega) fun j hj t ht => by
        rw [old j (by omega)] at ht
        by_cases q : j = i
        · subst q
          exact metRow_has _ _ _ ht
        · have := cl j (by omega) t ht
          rw [e]
          exact List.mem_append_left _ this
      refine ⟨a, ⟨x ++ y, ?_⟩, d⟩
      rw [b, e, List.append_assoc]
    · rw [if_neg c]
      refine ⟨ok, ⟨[], by simp⟩, fun s hs t ht => ?_⟩
      obtain ⟨j, hj, rfl⟩ := List.getElem_of_mem hs
      refine cl j (by omega) t ?_
      rw [List.getD_eq_getElem?_getD, List.getElem?_eq_getElem hj]
      exact ht
theorem start_ok (h : m.WF) : m.OrdOk [m.cls.getD 0 0] := by
  refine ⟨fun x hx => ?_, by simp⟩
  have : x = m.cls.getD 0 0 := by simpa using hx
  rw [this]
  exact rep_ok h h.n0
theorem met_ok (h : m.WF) : m.OrdOk (m.met m.cls) ∧ (∃ x, m.met m.cls = m.cls.getD 0 0 :: x) ∧ ∀ s ∈ m.met m.cls, ∀ t ∈ m.row s, m.cls.getD t 0 ∈ m.met m.cls := by
  have h30 : m.n ≤ 30 := h.n30
  obtain ⟨a, ⟨x, b⟩, d⟩ := metLoop_end h 31 0 [m.cls.getD 0 0] (start_ok h) (Nat.zero_le _) (by omega) (fun j hj => absurd hj (Nat.not_lt_zero _))
  exact ⟨a, ⟨x, b⟩, d⟩
/-! ### the least machine -/
section
variable (h : m.WF)
include h
theorem least_n : m.least.n = (m.met m.cls).length := by simp [least, leastBy, Mach.n]
theorem met_pos : 0 < (m.met m.cls).length := by
  obtain ⟨_, ⟨x, e⟩, _⟩ := met_ok h
  rw [e]
  simp
theorem met_le : (m.met m.cls).length ≤ m.n := (met_ok h).1.le
theorem met_at {i : Nat} (hi : i < (m.met m.cls).length) : (m.met m.cls).getD i 0 ∈ m.met m.cls ∧ (m.met m.cls).getD i 0 < m.n ∧ m.cls.getD ((m.met m.cls).getD i 0) 0 = (m.met m.cls).getD i 0 := by
  have e : (m.met m.cls).getD i 0 = (m.met m.cls)[i] := by rw [List.getD_eq_getElem?_getD, List.getElem?_eq_getElem hi] <;> rfl
  rw [e]
  have := (met_ok h).1.rep _ (List.getElem_mem hi)
  exact ⟨List.getElem_mem hi, this⟩
theorem row_at {s a : Nat} (hs : s < m.n) (ha : a < m.k) : (m.row s)[a]? = some (m.step s a) ∧ m.step s a ∈ m.row s := by
  have q : a < (m.row s).length := by rw [(h.row hs).1]; exact ha
  have e : m.step s a = (m.row s)[a] := by
    unfold Mach.step
    rw [List.getD_eq_getElem?_getD, List.getElem?_eq_getElem q]
    rfl
  rw [e]
  exact ⟨List.getElem?_eq_getElem q, List.getElem_mem q⟩
theorem least_step {i a : Nat} (hi : i < (m.met m.cls).length) (ha : a < m.k) : m.least.step i a = (m.met m.cls).idxOf (m.cls.getD (m.step ((m.met m.cls).getD i 0) a) 0) := by
  obtain ⟨_, b, _⟩ := met_at h hi
  have e : m.least.row i = (m.row ((m.met m.cls).getD i 0)).map fun t => (m.met m.cls).idxOf (m.cls.getD t 0) := by
    unfold Mach.row least leastBy
    rw [List.getD_eq_getElem?_getD]
    simp [hi, Mach.row]
  unfold Mach.step
  rw [e, List.getD_eq_getElem?_getD, List.getElem?_map, (row_at h b ha).1]
  rfl
theorem least_at {i : Nat} (hi : i < (m.met m.cls).length) : m.least.at_ i = m.at_ ((m.met m.cls).getD i 0) := by
  show (m.least.ou).getD i 0 = _
  unfold least leastBy
  rw [List.getD_eq_getElem?_getD]
  simp [hi]
/-- where a class stands in the order -/
theorem idx_ok {s : Nat} (hs : s < m.n) (hm : m.cls.getD s 0 ∈ m.met m.cls) : (m.met m.cls).idxOf (m.cls.getD s 0) < (m.met m.cls).length ∧ (m.met m.cls).getD ((m.met m.cls).idxOf (m.cls.getD s 0)) 0 = m.cls.getD s 0 := by
  refine ⟨List.idxOf_lt_length_of_mem hm, ?_⟩
  rw [List.getD_eq_getElem?_getD, idxOf_get hm]
  rfl
theorem least_eqv : ∀ (w : Word) {i s : Nat}, okw m.k w → i < (m.met m.cls).length → s < m.n → m.cls.getD s 0 = (m.met m.cls).getD i 0 → m.least.out i w = m.out s w
  | [], i, s, _, hi, hs, e => by
    show m.least.at_ i = m.at_ s
    rw [least_at h hi, ← e]
    exact (cls_rep h hs).2.2 [] (okw_nil _)
  | a :: w, i, s, hw, hi, hs, e => by
    rw [okw_cons] at hw
    obtain ⟨h1, h2, h3⟩ := met_at h hi
    have hc := (met_ok h).2.2 _ h1 _ (row_at h h2 hw.1).2
    obtain ⟨i1, i2⟩ := idx_ok h (h.step h2 hw.1) hc
    rw [out_cons, out_cons, least_step h hi hw.1]
    have es : Eqv m ((m.met m.cls).getD i 0) m s := by
      rw [← e]
      exact (cls_rep h hs).2.2
    rw [least_eqv w hw.2 i1 (h.step h2 hw.1) i2.symm]
    exact es.step hw.1 w hw.2
theorem least_alike : Eqv m.least 0 m 0 := by
  intro w hw
  refine least_eqv h w hw (met_pos h) h.n0 ?_
  obtain ⟨_, ⟨x, e⟩, _⟩ := met_ok h
  rw [e]
  rfl
theorem least_wf : m.least.WF where
  k1 := h.k1
  k4 := h.k4
  o1 := h.o1
  o6 := h.o6
  n1 := by
    have := least_n h
    have := met_pos h
    unfold Mach.n at *
    omega
  n30 := by
    have e := least_n h
    have := met_le h
    have := h.n30
    unfold Mach.n at *
    omega
  len := by simp [least, leastBy]
  rows := by
    intro r hr
    unfold least leastBy at hr
    simp only [List.mem_map] at hr
    obtain ⟨s, hs, rfl⟩ := hr
    have hb := (met_ok h).1.rep s hs
    refine ⟨?_, fun t ht => ?_⟩
    · rw [List.length_map]
      exact (h.row hb.1).1
    · rw [List.mem_map] at ht
      obtain ⟨u, hu, rfl⟩ := ht
      have := (met_ok h).2.2 s hs u hu
      have e := least_n h
      unfold Mach.n at e
      rw [e]
      exact List.idxOf_lt_length_of_mem this
  ous := by
    intro x hx
    unfold least leastBy at hx
    simp only [List.mem_map] at hx
    obtain ⟨s, hs, rfl⟩ := hx
    exact h.at_lt ((met_ok h).1.rep s hs).1
end
/-! ### it is the only one -/
/-- two orders in step -/
def Lock (m m' : Mach) (o o' : List Nat) : Prop := o.length = o'.length ∧ ∀ i, i < o.length → Eqv m (o.getD i 0) m' (o'.getD i 0)
theorem getD_app_left {l r : List Nat} {i : Nat} (h : i < l.length) : (l ++ r).getD i 0 = l.getD i 0 := by
  rw [List.getD_eq_getElem?_getD, List.getD_eq_getElem?_getD, List.getElem?_append_left h]
theorem getD_app_last {l : List Nat} {x : Nat} : (l ++ [x]).getD l.length 0 = x := by
  rw [List.getD_eq_getElem?_getD]
  simp
theorem lock_mem (h : m.WF) (h' : m'.WF) (hk : m.k = m'.k) {o o' : List Nat} (ok : m.OrdOk o) (ok' : m'.OrdOk o') (L : Lock m m' o o') {t t' : Nat} (ht : t < m.n) (ht' : t' < m'.n) (e : Eqv m t m' t') :
    (∀ i, i < o.length → (o.getD i 0 = m.cls.getD t 0 ↔ o'.getD i 0 = m'.cls.getD t' 0)) := by
  intro i hi
  have hi' : i < o'.length := by rw [← L.1]; exact hi
  have g1 : ∀ {l : List Nat}, i < l.length → l.getD i 0 ∈ l := fun {l} q => by
    rw [List.getD_eq_getElem?_getD, List.getElem?_eq_getElem q]
    exact List.getElem_mem q
  obtain ⟨b1, b2⟩ := ok.rep _ (g1 hi)
  obtain ⟨c1, c2⟩ := ok'.rep _ (g1 hi')
  have l := L.2 i hi
  have st : (o.getD i 0 = m.cls.getD t 0 ↔ Eqv m (o.getD i 0) m t) := by
    rw [← cls_iff h b1 ht, b2]
  have st' : (o'.getD i 0 = m'.cls.getD t' 0 ↔ Eqv m' (o'.getD i 0) m' t') := by
    rw [← cls_iff h' c1 ht', c2]
  rw [st, st']
  constructor
  · intro q
    exact (l.symm hk).trans hk.symm (q.trans rfl e)
  · intro q
    exact l.trans hk (q.trans rfl (e.symm hk))
theorem lock_in (h : m.WF) (h' : m'.WF) (hk : m.k = m'.k) {o o' : List Nat} (ok : m.OrdOk o) (ok' : m'.OrdOk o') (L : Lock m m' o o') {t t' : Nat} (ht : t < m.n) (ht' : t' < m'.n) (e : Eqv m t m' t') :
    m.cls.getD t 0 ∈ o ↔ m'.cls.getD t' 0 ∈ o' := by
  have z := lock_mem h h' hk ok ok' L ht ht' e
  have mem : ∀ {l : List Nat} {x : Nat}, x ∈ l ↔ ∃ i, i < l.length ∧ l.getD i 0 = x := fun {l x} => by
    constructor
    · intro hx
      obtain ⟨i, hi, rfl⟩ := List.getElem_of_mem hx
      exact ⟨i, hi, by rw [List.getD_eq_getElem?_getD, List.getElem?_eq_getElem hi] <;> rfl⟩
    · rintro ⟨i, hi, rfl⟩
      rw [List.getD_eq_getElem?_getD, List.getElem?_eq_getElem hi]
      exact List.getElem_mem hi
  rw [mem, mem]
  constructor
  · rintro ⟨i, hi, q⟩
    exact ⟨i, by rw [← L.1]; exact hi, (z i hi).mp q⟩
  · rintro ⟨i, hi, q⟩
    have hi' : i < o.length := by rw [L.1]; exact hi
    exact ⟨i, hi', (z i hi').mpr q⟩
theorem lock_put (h : m.WF) (h' : m'.WF) (hk : m.k = m'.k) {o o' : List Nat} (ok : m.OrdOk o) (ok' : m'.OrdOk o') (L : Lock m m' o o') {t t' : Nat} (ht : t < m.n) (ht' : t' < m'.n) (e : Eqv m t m' t') :
    Lock m m' (if m.cls.getD t 0 ∈ o then o else o ++ [m.cls.getD t 0]) (if m'.cls.getD t' 0 ∈ o' then o' else o' ++ [m'.cls.getD t' 0]) := by
  have z := lock_in h h' hk ok ok' L ht ht' e
  by_cases c : m.cls.getD t 0 ∈ o
  · rw [if_pos c, if_pos (z.mp c)]
    exact L
  · rw [if_neg c, if_neg fun q => c (z.mpr q)]
    refine ⟨by simp [L.1], fun i hi => ?_⟩
    by_cases q : i < o.length
    · rw [getD_app_left q, getD_app_left (by rw [← L.1]; exact q)]
      exact L.2 i q
    · have : i = o.length := by
        rw [List.length_append] at hi
        simp at hi
        omega
      subst this
      rw [getD_app_last, L.1, getD_app_last]
      exact ((cls_rep h ht).2.2.trans rfl e).trans hk ((cls_rep h' ht').2.2.symm rfl)
theorem lock_row (h : m.WF) (h' : m'.WF) (hk : m.k = m'.k) : ∀ {r r' o o' : List Nat}, m.OrdOk o → m'.OrdOk o' → Lock m m' o o' → r.length = r'.length → (∀ t ∈ r, t < m.n) → (∀ t ∈ r', t < m'.n) →
    (∀ i, i < r.length → Eqv m (r.getD i 0) m' (r'.getD i 0)) → Lock m m' (metRow m.cls o r) (metRow m'.cls o' r')
  | [], [], o, o', _, _, L, _, _, _, _ => L
  | [], _ :: _, _, _, _, _, _, hl, _, _, _ => by simp at hl
  | _ :: _, [], _, _, _, _, _, hl, _, _, _ => by simp at hl
  | t :: r, t' :: r', o, o', ok, ok', L, hl, hr, hr', e => by
    rw [metRow_cons, metRow_cons]
    have ht := hr t List.mem_cons_self
    have ht' := hr' t' List.mem_cons_self
    have e0 : Eqv m t m' t' := e 0 (by simp)
    refine lock_row h h' hk (ok.put h ht) (ok'.put h' ht') (lock_put h h' hk ok ok' L ht ht' e0) (by simpa using hl) (fun x hx => hr x (List.mem_cons_of_mem _ hx)) (fun x hx => hr' x (List.mem_cons_of_mem _ hx)) fun i hi => ?_
    exact e (i + 1) (by simpa using hi)
theorem lock_loop (h : m.WF) (h' : m'.WF) (hk : m.k = m'.k) : ∀ (f i : Nat) {o o' : List Nat}, m.OrdOk o → m'.OrdOk o' → Lock m m' o o' → Lock m m' (m.metLoop m.cls f i o) (m'.metLoop m'.cls f i o')
  | 0, _, _, _, _, _, L => L
  | f + 1, i, o, o', ok, ok', L => by
    unfold metLoop
    by_cases c : i < o.length
    · have c' : i < o'.length := by rw [← L.1]; exact c
      rw [if_pos c, if_pos c']
      have g1 : ∀ {l : List Nat}, i < l.length → l.getD i 0 ∈ l := fun {l} q => by
        rw [List.getD_eq_getElem?_getD, List.getElem?_eq_getElem q]
        exact List.getElem_mem q
      have b := (ok.rep _ (g1 c)).1
      have b' := (ok'.rep _ (g1 c')).1
      have r1 := h.row b
      have r2 := h'.row b'
      refine lock_loop h h' hk f (i + 1) (ok.row h r1.2) (ok'.row h' r2.2) (lock_row h h' hk ok ok' L (by rw [r1.1, r2.1, hk]) r1.2 r2.2 fun a ha => ?_)
      rw [r1.1] at ha
      exact (L.2 i c).step ha
    · rw [if_neg c, if_neg (by rw [← L.1]; exact c)]
      exact L
theorem lock_met (h : m.WF) (h' : m'.WF) (hk : m.k = m'.k) (e : Eqv m 0 m' 0) : Lock m m' (m.met m.cls) (m'.met m'.cls) := by
  refine lock_loop h h' hk 31 0 (start_ok h) (start_ok h') ⟨rfl, fun i hi => ?_⟩
  have : i = 0 := by simpa using hi
  subst this
  exact ((cls_rep h h.n0).2.2.trans rfl e).trans hk ((cls_rep h' h'.n0).2.2.symm rfl)
theorem getD_some {l : List Nat} {i : Nat} (h : i < l.length) : l[i]? = some (l.getD i 0) := by
  rw [List.getD_eq_getElem?_getD, List.getElem?_eq_getElem h]
  rfl
theorem idx_lock (h : m.WF) (h' : m'.WF) (hk : m.k = m'.k) {o o' : List Nat} (ok : m.OrdOk o) (ok' : m'.OrdOk o') (L : Lock m m' o o') {t t' : Nat} (ht : t < m.n) (ht' : t' < m'.n) (e : Eqv m t m' t') (hm : m.cls.getD t 0 ∈ o) :
    o.idxOf (m.cls.getD t 0) = o'.idxOf (m'.cls.getD t' 0) := by
  have z := lock_mem h h' hk ok ok' L ht ht' e
  have i1 := List.idxOf_lt_length_of_mem hm
  have toG : ∀ {l : List Nat} {j a : Nat}, l[j]? = some a → l.getD j 0 = a := fun {l j a} q => by
    rw [List.getD_eq_getElem?_getD, q]
    rfl
  have i1' : o.idxOf (m.cls.getD t 0) < o'.length := by rw [← L.1]; exact i1
  have v1 : o.getD (o.idxOf (m.cls.getD t 0)) 0 = m.cls.getD t 0 := by
    rw [List.getD_eq_getElem?_getD, idxOf_get hm]
    rfl
  have v2 := (z _ i1).mp v1
  refine idxOf_alike (i := o.idxOf (m.cls.getD t 0)) L.1 (idxOf_get hm) (v2 ▸ getD_some i1') fun j a b ha hb => ?_
  have hj := (List.getElem?_eq_some_iff.mp ha).1
  rw [← toG ha, ← toG hb]
  exact z j hj
theorem least_unique (h : m.WF) (h' : m'.WF) (hk : m.k = m'.k) (ho : m.o = m'.o) (e : Eqv m 0 m' 0) : m.least = m'.least := by
  have L := lock_met h h' hk e
  obtain ⟨ok, _, cl⟩ := met_ok h
  obtain ⟨ok', _, cl'⟩ := met_ok h'
  have g : ∀ {l : List Nat} {i : Nat} (q : i < l.length), l.getD i 0 = l[i] := fun {l i} q => by
    rw [List.getD_eq_getElem?_getD, List.getElem?_eq_getElem q]
    rfl
  have e1 : m.least.mv = m'.least.mv := by
    show (m.met m.cls).map _ = (m'.met m'.cls).map _
    apply List.ext_getElem
    · simp [L.1]
    · intro i h1 h2
      rw [List.length_map] at h1 h2
      rw [List.getElem_map, List.getElem_map, ← g h1, ← g h2]
      have b := (met_at h h1).2.1
      have b' := (met_at h' h2).2.1
      have r1 := (h.row b).1
      have r2 := (h'.row b').1
      apply List.ext_getElem
      · rw [List.length_map, List.length_map, r1, r2, hk]
      · intro a q1 q2
        rw [List.length_map, r1] at q1
        rw [List.length_map, r2] at q2
        rw [List.getElem_map, List.getElem_map]
        have s1 := (List.getElem?_eq_some_iff.mp (row_at h b q1).1).2
        have s2 := (List.getElem?_eq_some_iff.mp (row_at h' b' q2).1).2
        rw [s1, s2]
        exact idx_lock h h' hk ok ok' L (h.step b q1) (h'.step b' q2) ((L.2 i h1).step q1) (cl _ (met_at h h1).1 _ (row_at h b q1).2)
  have e2 : m.least.ou = m'.least.ou := by
    show (m.met m.cls).map _ = (m'.met m'.cls).map _
    apply List.ext_getElem
    · simp [L.1]
    · intro i h1 h2
      rw [List.length_map] at h1 h2
      rw [List.getElem_map, List.getElem_map, ← g h1, ← g h2]
      exact L.2 i h1 [] (okw_nil _)
  have e3 : m.least.k = m'.least.k := hk
  have e4 : m.least.o = m'.least.o := ho
  revert e1 e2 e3 e4
  generalize m.least = x
  generalize m'.least = y
  obtain ⟨a, b, c, d⟩ := x
  obtain ⟨a', b', c', d'⟩ := y
  intro e1 e2 e3 e4
  simp only at e1 e2 e3 e4
  rw [e1, e2, e3, e4]
/-- every reached state stands in the order -/
theorem run_in (h : m.WF) : ∀ {w : Word} {s : Nat}, s < m.n → m.cls.getD s 0 ∈ m.met m.cls → okw m.k w → m.cls.getD (m.run s w) 0 ∈ m.met m.cls
  | [], _, _, hm, _ => hm
  | a :: w, s, hs, hm, hw => by
    rw [okw_cons] at hw
    rw [run_cons]
    obtain ⟨i1, i2⟩ := idx_ok h hs hm
    obtain ⟨h1, h2, h3⟩ := met_at h i1
    rw [i2] at h1 h2
    have hc := (met_ok h).2.2 _ h1 _ (row_at h h2 hw.1).2
    have e : m.cls.getD (m.step (m.cls.getD s 0) a) 0 = m.cls.getD (m.step s a) 0 := (cls_iff h (h.step h2 hw.1) (h.step hs hw.1)).mpr ((cls_rep h hs).2.2.step hw.1)
    rw [e] at hc
    exact run_in h (h.step hs hw.1) hc hw.2
/-- words that part are not more than the least machine's states -/
theorem parted_le (h : m.WF) {S : List Word} (hS : ∀ v ∈ S, okw m.k v) (hp : S.Pairwise fun v w => ∃ c, okw m.k c ∧ m.out 0 (v ++ c) ≠ m.out 0 (w ++ c)) : S.length ≤ m.least.n := by
  rw [least_n h]
  have h0 : m.cls.getD 0 0 ∈ m.met m.cls := by
    obtain ⟨_, ⟨x, e⟩, _⟩ := met_ok h
    rw [e]
    exact List.mem_cons_self
  have f : ∀ v ∈ S, m.cls.getD (m.run 0 v) 0 ∈ m.met m.cls := fun v hv => run_in h h.n0 h0 (hS v hv)
  have key : (S.map fun v => (m.met m.cls).idxOf (m.cls.getD (m.run 0 v) 0)).Nodup := by
    rw [List.Nodup, List.pairwise_map]
    have hp2 := List.Pairwise.and_mem.mp hp
    refine hp2.imp fun {v w} ⟨hv, hw, c, hc, ne⟩ q => ne ?_
    have e := idxOf_inj (f v hv) (f w hw) q
    have r1 := h.run h.n0 (hS v hv)
    have r2 := h.run h.n0 (hS w hw)
    rw [out_app, out_app]
    exact (cls_iff h r1 r2).mp e c hc
  have := nodup_lt key (n := (m.met m.cls).length) fun x hx => by
    rw [List.mem_map] at hx
    obtain ⟨v, hv, rfl⟩ := hx
    exact List.idxOf_lt_length_of_mem (f v hv)
  rw [List.length_map] at this
  exact this
end Mach
end Mai
/-! ## M2 -/
namespace Mai
namespace Mach
variable {m m' : Mach}
/-! ### the search of a difference -/
abbrev SRow := Nat × Nat × Word
def pairs (rows : List SRow) : List (Nat × Nat) := rows.map fun r => (r.1, r.2.1)
def srPut (m m' : Mach) (x : SRow) (rows : List SRow) (a : Nat) : List SRow :=
  if (m.step x.1 a, m'.step x.2.1 a) ∈ pairs rows then rows else rows ++ [(m.step x.1 a, m'.step x.2.1 a, x.2.2 ++ [a])]
def srLoop (m m' : Mach) : Nat → Nat → List SRow → Option Word
  | 0, _, _ => none
  | f + 1, i, rows => match rows[i]? with
    | none => none
    | some x => if m.at_ x.1 ≠ m'.at_ x.2.1 then some x.2.2 else srLoop m m' f (i + 1) ((List.range m.k).foldl (srPut m m' x) rows)
def search (m m' : Mach) : Option Word := srLoop m m' 1000 0 [(0, 0, [])]
structure SrOk (m m' : Mach) (rows : List SRow) : Prop where
  row : ∀ (i : Nat) (x : SRow), rows[i]? = some x → x.1 < m.n ∧ x.2.1 < m'.n ∧ m.run 0 x.2.2 = x.1 ∧ m'.run 0 x.2.2 = x.2.1 ∧ okw m.k x.2.2 ∧ x.2.2.length ≤ i
  nd : (pairs rows).Nodup
theorem nodup_pairs {l : List (Nat × Nat)} {a b : Nat} (h : l.Nodup) (hl : ∀ p ∈ l, p.1 < a ∧ p.2 < b) : l.length ≤ a * b := by
  have key : (l.map fun p => p.1 * b + p.2).Nodup := by
    rw [List.Nodup, List.pairwise_map]
    have h2 := List.Pairwise.and_mem.mp h
    refine h2.imp fun {p q} ⟨hp, hq, ne⟩ e => ne ?_
    obtain ⟨p1, p2⟩ := p
    obtain ⟨q1, q2⟩ := q
    have hp2 := (hl _ hp).2
    have hq2 := (hl _ hq).2
    simp only at e hp2 hq2
    have e1 : p1 = q1 := by
      have r1 : (p1 * b + p2) / b = p1 := by
        rw [Nat.mul_comm, Nat.mul_add_div (by omega), Nat.div_eq_of_lt hp2, Nat.add_zero]
      have r2 : (q1 * b + q2) / b = q1 := by
        rw [Nat.mul_comm, Nat.mul_add_div (by omega), Nat.div_eq_of_lt hq2, Nat.add_zero]
      rw [← r1, ← r2, e]
    subst e1
    have e2 : p2 = q2 := by omega
    rw [e2]
  have := nodup_lt key (n := a * b) fun x hx => by
    rw [List.mem_map] at hx
    obtain ⟨p, hp, rfl⟩ := hx
    obtain ⟨h1, h2⟩ := hl p hp
    have : (p.1 + 1) * b ≤ a * b := Nat.mul_le_mul_right b h1
    rw [Nat.succ_mul] at this
    omega
  rw [List.length_map] at this
  exact this
theorem SrOk.le {rows : List SRow} (ok : SrOk m m' rows) : rows.length ≤ m.n * m'.n := by
  have := nodup_pairs (a := m.n) (b := m'.n) ok.nd fun p hp => by
    unfold pairs at hp
    rw [List.mem_map] at hp
    obtain ⟨x, hx, rfl⟩ := hp
    obtain ⟨i, hi, e⟩ := List.getElem_of_mem hx
    have z := ok.row i x (by rw [List.getElem?_eq_getElem hi, e])
    exact ⟨z.1, z.2.1⟩
  unfold pairs at this
  rw [List.length_map] at this
  exact this
theorem run_snoc (s : Nat) (w : Word) (a : Nat) : m.run s (w ++ [a]) = m.step (m.run s w) a := by rw [run_app]; rfl
theorem SrOk.put (h : m.WF) (h' : m'.WF) (hk : m.k = m'.k) {rows : List SRow} (ok : SrOk m m' rows) {i : Nat} {x : SRow} (hx : rows[i]? = some x) {a : Nat} (ha : a < m.k) : SrOk m m' (srPut m m' x rows a) := by
  unfold srPut
  by_cases c : (m.step x.1 a, m'.step x.2.1 a) ∈ pairs rows
  · rw [if_pos c]; exact ok
  · rw [if_neg c]
    obtain ⟨z1, z2, z3, z4, z5, z6⟩ := ok.row i x hx
    have hi := (List.getElem?_eq_some_iff.mp hx).1
    refine ⟨fun j y hy => ?_, ?_⟩
    · by_cases q : j < rows.length
      · rw [List.getElem?_append_left q] at hy
        exact ok.row j y hy
      · have hj : j = rows.length := by
          have := (List.getElem?_eq_some_iff.mp hy).1
          rw [List.length_append] at this
          simp at this
          omega
        subst hj
        rw [List.getElem?_append_right (Nat.le_refl _)] at hy
        simp at hy
        subst hy
        refine ⟨h.step z1 ha, h'.step z2 (hk ▸ ha), ?_, ?_, ?_, ?_⟩
        · rw [run_snoc, z3]
        · rw [run_snoc, z4]
        · exact okw_app.mpr ⟨z5, okw_cons.mpr ⟨ha, okw_nil _⟩⟩
        · simp
          omega
    · have e : pairs (rows ++ [(m.step x.1 a, m'.step x.2.1 a, x.2.2 ++ [a])]) = pairs rows ++ [(m.step x.1 a, m'.step x.2.1 a)] := by simp [pairs]
      rw [e]
      exact snoc_nodup ok.nd c
theorem srPut_pre (m m' : Mach) (x : SRow) (rows : List SRow) (a : Nat) : ∃ y, srPut m m' x rows a = rows ++ y := by
  unfold srPut
  by_cases c : (m.step x.1 a, m'.step x.2.1 a) ∈ pairs rows
  · rw [if_pos c]; exact ⟨[], by simp⟩
  · rw [if_neg c]; exact ⟨_, rfl⟩
theorem pairs_app (r y : List SRow) : pairs (r ++ y) = pairs r ++ pairs y := by simp [pairs]
theorem srPut_has (m m' : Mach) (x : SRow) (rows : List SRow) (a : Nat) : (m.step x.1 a, m'.step x.2.1 a) ∈ pairs (srPut m m' x rows a) := by
  unfold srPut
  by_cases c : (m.step x.1 a, m'.step x.2.1 a) ∈ pairs rows
  · rw [if_pos c]; exact c
  · rw [if_neg c, pairs_app]
    exact List.mem_append_right _ (by simp [pairs])
theorem srFold (h : m.WF) (h' : m'.WF) (hk : m.k = m'.k) {x : SRow} {i : Nat} : ∀ (l : List Nat) {rows : List SRow}, SrOk m m' rows → rows[i]? = some x → (∀ a ∈ l, a < m.k) →
    SrOk m m' (l.foldl (srPut m m' x) rows) ∧ (∃ y, l.foldl (srPut m m' x) rows = rows ++ y) ∧ ∀ a ∈ l, (m.step x.1 a, m'.step x.2.1 a) ∈ pairs (l.foldl (srPut m m' x) rows)
  | [], rows, ok, _, _ => ⟨ok, ⟨[], by simp⟩, fun _ z => nomatch z⟩
  | a :: l, rows, ok, hx, hl => by
    rw [List.foldl_cons]
    have ok1 := ok.put h h' hk hx (hl a List.mem_cons_self)
    obtain ⟨y, e⟩ := srPut_pre m m' x rows a
    have hx1 : (srPut m m' x rows a)[i]? = some x := by
      rw [e, List.getElem?_append_left (List.getElem?_eq_some_iff.mp hx).1]
      exact hx
    obtain ⟨b1, ⟨z, b2⟩, b3⟩ := srFold h h' hk l ok1 hx1 fun b hb => hl b (List.mem_cons_of_mem _ hb)
    refine ⟨b1, ⟨y ++ z, by rw [b2, e, List.append_assoc]⟩, fun b hb => ?_⟩
    rcases List.mem_cons.mp hb with q | hb
    · subst q
      have := srPut_has m m' x rows b
      rw [b2, pairs_app]
      exact List.mem_append_left _ this
    · exact b3 b hb
theorem srLoop_some (h : m.WF) (h' : m'.WF) (hk : m.k = m'.k) : ∀ (f i : Nat) {rows : List SRow} {w : Word}, SrOk m m' rows → srLoop m m' f i rows = some w →
    okw m.k w ∧ m.out 0 w ≠ m'.out 0 w ∧ w.length < m.n * m'.n
  | 0, _, _, _, _, e => by cases e
  | f + 1, i, rows, w, ok, e => by
    unfold srLoop at e
    cases q : rows[i]? with
    | none =>
      rw [q] at e
      cases e
    | some x =>
      rw [q] at e
      simp only at e
      obtain ⟨z1, z2, z3, z4, z5, z6⟩ := ok.row i x q
      have hi := (List.getElem?_eq_some_iff.mp q).1
      have hle := ok.le
      by_cases c : m.at_ x.1 ≠ m'.at_ x.2.1
      · rw [if_pos c] at e
        obtain rfl : x.2.2 = w := Option.some.inj e
        refine ⟨z5, ?_, by omega⟩
        unfold out
        rw [z3, z4]
        exact c
      · rw [if_neg c] at e
        obtain ⟨ok2, _, _⟩ := srFold h h' hk (List.range m.k) ok q fun a ha => List.mem_range.mp ha
        exact srLoop_some h h' hk f (i + 1) ok2 e
theorem srLoop_none (h : m.WF) (h' : m'.WF) (hk : m.k = m'.k) : ∀ (f i : Nat) {rows : List SRow}, SrOk m m' rows → m.n * m'.n < f + i → i ≤ rows.length →
    (∀ j x, j < i → rows[j]? = some x → m.at_ x.1 = m'.at_ x.2.1 ∧ ∀ a, a < m.k → (m.step x.1 a, m'.step x.2.1 a) ∈ pairs rows) → srLoop m m' f i rows = none →
    ∃ P : List (Nat × Nat), (∀ p ∈ pairs rows, p ∈ P) ∧ ∀ p ∈ P, m.at_ p.1 = m'.at_ p.2 ∧ ∀ a, a < m.k → (m.step p.1 a, m'.step p.2 a) ∈ P
  | 0, i, rows, ok, hf, hi, _, _ => by
    have := ok.le
    omega
  | f + 1, i, rows, ok, hf, hi, cl, e => by
    unfold srLoop at e
    cases q : rows[i]? with
    | none =>
      have hn := List.getElem?_eq_none_iff.mp q
      refine ⟨pairs rows, fun _ z => z, fun p hp => ?_⟩
      unfold pairs at hp
      rw [List.mem_map] at hp
      obtain ⟨x, hx, rfl⟩ := hp
      obtain ⟨j, hj, ex⟩ := List.getElem_of_mem hx
      exact cl j x (by omega) (by rw [List.getElem?_eq_getElem hj, ex])
    | some x =>
      rw [q] at e
      simp only at e
      have hi' := (List.getElem?_eq_some_iff.mp q).1
      by_cases c : m.at_ x.1 ≠ m'.at_ x.2.1
      · rw [if_pos c] at e
        cases e
      · rw [if_neg c] at e
        have c' : m.at_ x.1 = m'.at_ x.2.1 := Classical.byContradiction fun z => c z
        obtain ⟨ok2, ⟨y, ey⟩, hall⟩ := srFold h h' hk (List.range m.k) ok q fun a ha => List.mem_range.mp ha
        obtain ⟨P, h1, h2⟩ := srLoop_none h h' hk f (i + 1) ok2 (by omega) (by rw [ey, List.length_append]; omega) (fun j z hj hz => by
          rw [ey, List.getElem?_append_left (by omega)] at hz
          by_cases qj : j = i
          · subst qj
            rw [q] at hz
            obtain rfl := Option.some.inj hz
            exact ⟨c', fun a ha => hall a (List.mem_range.mpr ha)⟩
          · obtain ⟨d1, d2⟩ := cl j z (by omega) hz
            refine ⟨d1, fun a ha => ?_⟩
            rw [ey, pairs_app]
            exact List.mem_append_left _ (d2 a ha)) e
        refine ⟨P, fun p hp => h1 p ?_, h2⟩
        rw [ey, pairs_app]
        exact List.mem_append_left _ hp
theorem sr_start (h : m.WF) (h' : m'.WF) : SrOk m m' [(0, 0, [])] := by
  refine ⟨fun i x hx => ?_, by simp [pairs]⟩
  cases i with
  | zero =>
    simp at hx
    subst hx
    exact ⟨h.n0, h'.n0, rfl, rfl, okw_nil _, Nat.le_refl _⟩
  | succ i => simp at hx
theorem search_some (h : m.WF) (h' : m'.WF) (hk : m.k = m'.k) {w : Word} (e : search m m' = some w) : okw m.k w ∧ m.out 0 w ≠ m'.out 0 w ∧ w.length < m.n * m'.n := srLoop_some h h' hk _ _ (sr_start h h') e
theorem search_none (h : m.WF) (h' : m'.WF) (hk : m.k = m'.k) (e : search m m' = none) : Eqv m 0 m' 0 := by
  have b1 : m.n ≤ 30 := h.n30
  have b2 : m'.n ≤ 30 := h'.n30
  have b3 : m.n * m'.n ≤ 30 * 30 := Nat.mul_le_mul b1 b2
  obtain ⟨P, h1, h2⟩ := srLoop_none h h' hk 1000 0 (sr_start h h') (by omega) (Nat.zero_le _) (fun j x hj => absurd hj (Nat.not_lt_zero _)) e
  have key : ∀ (w : Word) (s t : Nat), (s, t) ∈ P → okw m.k w → m.out s w = m'.out t w := fun w => by
    induction w with
    | nil => intro s t hp _; exact (h2 _ hp).1
    | cons a w ih =>
      intro s t hp hw
      rw [okw_cons] at hw
      exact ih _ _ ((h2 _ hp).2 a hw.1) hw.2
  intro w hw
  exact key w 0 0 (h1 _ (by simp [pairs])) hw
/-! ### words of a length behind which machines differ -/
def lead (m m' : Mach) : Nat → Nat → Nat → Bool
  | 0, s, t => !decide (m.at_ s = m'.at_ t)
  | L + 1, s, t => ((m.row s).zip (m'.row t)).any fun p => lead m m' L p.1 p.2
def findP (m m' : Mach) (most : Nat) : Nat → Word → Nat → Nat → List Word → List Word
  | 0, word, s, t, found => if most ≤ found.length ∨ lead m m' 0 s t = false then found else found ++ [word]
  | L + 1, word, s, t, found => if most ≤ found.length ∨ lead m m' (L + 1) s t = false then found
    else (List.range m.k).foldl (fun f a => findP m m' most L (word ++ [a]) (m.step s a) (m'.step t a) f) found
theorem zip_at (h : m.WF) (h' : m'.WF) (hk : m.k = m'.k) {s t : Nat} (hs : s < m.n) (ht : t < m'.n) : (m.row s).zip (m'.row t) = (List.range m.k).map fun a => (m.step s a, m'.step t a) := by
  have r1 := (h.row hs).1
  have r2 := (h'.row ht).1
  apply List.ext_getElem
  · simp [r1, r2, hk]
  · intro i h1 h2
    have hi : i < m.k := by simpa using h2
    have e1 := (List.getElem?_eq_some_iff.mp (row_at h hs hi).1).2
    have e2 := (List.getElem?_eq_some_iff.mp (row_at h' ht (hk ▸ hi)).1).2
    rw [List.getElem_zip, e1, e2, List.getElem_map, List.getElem_range]
theorem lead_iff (h : m.WF) (h' : m'.WF) (hk : m.k = m'.k) : ∀ (L : Nat) {s t : Nat}, s < m.n → t < m'.n → (lead m m' L s t = true ↔ ∃ w, okw m.k w ∧ w.length = L ∧ m.out s w ≠ m'.out t w)
  | 0, s, t, hs, ht => by
    unfold lead
    constructor
    · intro e
      have : ¬ m.at_ s = m'.at_ t := by simpa using e
      exact ⟨[], okw_nil _, rfl, this⟩
    · rintro ⟨w, _, hl, ne⟩
      have : w = [] := List.length_eq_zero_iff.mp hl
      subst this
      have : ¬ m.at_ s = m'.at_ t := ne
      simpa using this
  | L + 1, s, t, hs, ht => by
    unfold lead
    rw [zip_at h h' hk hs ht, List.any_map, List.any_eq_true]
    constructor
    · rintro ⟨a, ha, e⟩
      have ha' := List.mem_range.mp ha
      obtain ⟨w, h1, h2, h3⟩ := (lead_iff h h' hk L (h.step hs ha') (h'.step ht (hk ▸ ha'))).mp e
      exact ⟨a :: w, okw_cons.mpr ⟨ha', h1⟩, by simp [h2], h3⟩
    · rintro ⟨w, hw, hl, ne⟩
      cases w with
      | nil => simp at hl
      | cons a w =>
        rw [okw_cons] at hw
        exact ⟨a, List.mem_range.mpr hw.1, (lead_iff h h' hk L (h.step hs hw.1) (h'.step ht (hk ▸ hw.1))).mpr ⟨w, hw.2, by simpa using hl, ne⟩⟩
/-- what is found: words that part both machines, at most so many; one at least where there is one -/
def FindOk (m m' : Mach) (most L : Nat) (word : Word) (found res : List Word) : Prop :=
  (∃ x, res = found ++ x ∧ ∀ v ∈ x, okw m.k v ∧ v.length = word.length + L ∧ m.out 0 v ≠ m'.out 0 v) ∧ (res.length ≤ found.length ∨ res.length ≤ most)
theorem findOk_refl (m m' : Mach) (most L : Nat) (word : Word) (found : List Word) : FindOk m m' most L word found found := ⟨⟨[], by simp, fun _ z => nomatch z⟩, .inl (Nat.le_refl _)⟩
theorem findOk_trans {most L : Nat} {w1 w2 word : Word} {f g r : List Word} {L' : Nat} (a : FindOk m m' most L w1 f g) (b : FindOk m m' most L w2 g r) (e1 : w1.length + L = word.length + L') (e2 : w2.length + L = word.length + L') : FindOk m m' most L' word f r := by
  obtain ⟨⟨x, ex, hx⟩, lx⟩ := a
  obtain ⟨⟨y, ey, hy⟩, ly⟩ := b
  refine ⟨⟨x ++ y, by rw [ey, ex, List.append_assoc], fun v hv => ?_⟩, by omega⟩
  rcases List.mem_append.mp hv with hv | hv
  · have := hx v hv
    exact ⟨this.1, by omega, this.2.2⟩
  · have := hy v hv
    exact ⟨this.1, by omega, this.2.2⟩
theorem find_ok (h : m.WF) (h' : m'.WF) (hk : m.k = m'.k) (most : Nat) : ∀ (L : Nat) {word : Word} {s t : Nat} {found : List Word}, okw m.k word → m.run 0 word = s → m'.run 0 word = t → FindOk m m' most L word found (findP m m' most L word s t found)
  | 0, word, s, t, found, hw, rs, rt => by
    unfold findP
    by_cases c : most ≤ found.length ∨ lead m m' 0 s t = false
    · rw [if_pos c]; exact findOk_refl ..
    · rw [if_neg c]
      have c1 : ¬ most ≤ found.length := fun z => c (.inl z)
      have c2 : ¬ m.at_ s = m'.at_ t := by
        have : lead m m' 0 s t = true := by
          cases q : lead m m' 0 s t with
          | true => rfl
          | false => exact absurd (.inr q) c
        unfold lead at this
        simpa using this
      refine ⟨⟨[word], rfl, fun v hv => ?_⟩, .inr (by simp; omega)⟩
      have : v = word := by simpa using hv
      subst this
      refine ⟨hw, by simp, ?_⟩
      unfold out
      rw [rs, rt]
      exact c2
  | L + 1, word, s, t, found, hw, rs, rt => by
    unfold findP
    by_cases c : most ≤ found.length ∨ lead m m' (L + 1) s t = false
    · rw [if_pos c]; exact findOk_refl ..
    · rw [if_neg c]
      have fold : ∀ (l : List Nat) (f : List Word), (∀ a ∈ l, a < m.k) → FindOk m m' most (L + 1) word f (l.foldl (fun f a => findP m m' most L (word ++ [a]) (m.step s a) (m'.step t a) f) f) := fun l => by
        induction l with
        | nil => intro f _; exact findOk_refl ..
        | cons a l ih =>
          intro f hl
          rw [List.foldl_cons]
          have ha := hl a List.mem_cons_self
          have one := find_ok h h' hk most L (word := word ++ [a]) (s := m.step s a) (t := m'.step t a) (found := f) (okw_app.mpr ⟨hw, okw_cons.mpr ⟨ha, okw_nil _⟩⟩) (by rw [run_snoc, rs]) (by rw [run_snoc, rt])
          have two := ih (findP m m' most L (word ++ [a]) (m.step s a) (m'.step t a) f) fun b hb => hl b (List.mem_cons_of_mem _ hb)
          obtain ⟨⟨x, ex, hx⟩, lx⟩ := one
          obtain ⟨⟨y, ey, hy⟩, ly⟩ := two
          refine ⟨⟨x ++ y, by rw [ey, ex, List.append_assoc], fun v hv => ?_⟩, by omega⟩
          rcases List.mem_append.mp hv with hv | hv
          · have := hx v hv
            rw [List.length_append] at this
            simp only [List.length_cons, List.length_nil] at this
            exact ⟨this.1, by omega, this.2.2⟩
          · exact hy v hv
      exact fold _ _ fun a ha => List.mem_range.mp ha
theorem find_mono (most : Nat) : ∀ (L : Nat) (word : Word) (s t : Nat) (found : List Word), found.length ≤ (findP m m' most L word s t found).length
  | 0, word, s, t, found => by
    unfold findP
    split
    · exact Nat.le_refl _
    · simp
  | L + 1, word, s, t, found => by
    unfold findP
    split
    · exact Nat.le_refl _
    · have fold : ∀ (l : List Nat) (f : List Word), f.length ≤ (l.foldl (fun f a => findP m m' most L (word ++ [a]) (m.step s a) (m'.step t a) f) f).length := fun l => by
        induction l with
        | nil => intro f; exact Nat.le_refl _
        | cons a l ih =>
          intro f
          rw [List.foldl_cons]
          exact Nat.le_trans (find_mono most L _ _ _ f) (ih _)
      exact fold _ _
theorem find_grows (h : m.WF) (h' : m'.WF) (hk : m.k = m'.k) {most : Nat} : ∀ (L : Nat) {word : Word} {s t : Nat} {found : List Word}, s < m.n → t < m'.n → lead m m' L s t = true → found.length < most → found.length < (findP m m' most L word s t found).length
  | 0, word, s, t, found, hs, ht, hl, hf => by
    unfold findP
    rw [if_neg (by rw [hl]; simp; omega)]
    simp
  | L + 1, word, s, t, found, hs, ht, hl, hf => by
    unfold findP
    rw [if_neg (by rw [hl]; simp; omega)]
    have some : ∃ a, a < m.k ∧ lead m m' L (m.step s a) (m'.step t a) = true := by
      unfold lead at hl
      rw [zip_at h h' hk hs ht, List.any_map, List.any_eq_true] at hl
      obtain ⟨a, ha, e⟩ := hl
      exact ⟨a, List.mem_range.mp ha, e⟩
    obtain ⟨a, ha, hla⟩ := some
    have fold : ∀ (l : List Nat) (f : List Word), a ∈ l → (∀ b ∈ l, b < m.k) → f.length < most → f.length < (l.foldl (fun f a => findP m m' most L (word ++ [a]) (m.step s a) (m'.step t a) f) f).length := fun l => by
      induction l with
      | nil => intro f z; exact nomatch z
      | cons b l ih =>
        intro f hm hb hlt
        rw [List.foldl_cons]
        have up : ∀ g : List Word, g.length ≤ (l.foldl (fun f a => findP m m' most L (word ++ [a]) (m.step s a) (m'.step t a) f) g).length := fun g => by
          have : ∀ (l : List Nat) (g : List Word), g.length ≤ (l.foldl (fun f a => findP m m' most L (word ++ [a]) (m.step s a) (m'.step t a) f) g).length := fun l => by
            induction l with
            | nil => intro g; exact Nat.le_refl _
            | cons a l ih => intro g; rw [List.foldl_cons]; exact Nat.le_trans (find_mono most L _ _ _ g) (ih _)
          exact this l g
        rcases List.mem_cons.mp hm with q | hm
        · subst q
          have g1 := find_grows h h' hk L (word := word ++ [a]) (found := f) (h.step hs ha) (h'.step ht (hk ▸ ha)) hla hlt
          exact Nat.lt_of_lt_of_le g1 (up _)
        · by_cases q : f.length < (findP m m' most L (word ++ [b]) (m.step s b) (m'.step t b) f).length
          · exact Nat.lt_of_lt_of_le q (up _)
          · have e : f.length = (findP m m' most L (word ++ [b]) (m.step s b) (m'.step t b) f).length := by
              have := find_mono (m := m) (m' := m') most L (word ++ [b]) (m.step s b) (m'.step t b) f
              omega
            have := ih (findP m m' most L (word ++ [b]) (m.step s b) (m'.step t b) f) hm (fun c hc => hb c (List.mem_cons_of_mem _ hc)) (by omega)
            omega
    exact fold _ _ (List.mem_range.mpr ha) (fun b hb => List.mem_range.mp hb) hf
def wordsP (m m' : Mach) (L most : Nat) : List Word := findP m m' most L [] 0 0 []
/-- what the box may show, from the first difference's length on -/
def choices (m m' : Mach) (L : Nat) : Nat → List Word
  | 0 => []
  | i + 1 => choices m m' L i ++ wordsP m m' (L + i) (60 - (choices m m' L i).length)
theorem words_ok (h : m.WF) (h' : m'.WF) (hk : m.k = m'.k) (L most : Nat) : (∀ v ∈ wordsP m m' L most, okw m.k v ∧ v.length = L ∧ m.out 0 v ≠ m'.out 0 v) ∧ (wordsP m m' L most).length ≤ most := by
  obtain ⟨⟨x, ex, hx⟩, lx⟩ := find_ok h h' hk most L (word := []) (s := 0) (t := 0) (found := []) (okw_nil _) rfl rfl
  unfold wordsP
  refine ⟨fun v hv => ?_, ?_⟩
  · rw [ex] at hv
    have := hx v (by simpa using hv)
    simpa using this
  · have z : ([] : List Word).length = 0 := rfl
    omega
theorem choices_ok (h : m.WF) (h' : m'.WF) (hk : m.k = m'.k) (L : Nat) : ∀ i : Nat, (∀ v ∈ choices m m' L i, okw m.k v ∧ v.length < L + i ∧ m.out 0 v ≠ m'.out 0 v) ∧ (choices m m' L i).length ≤ 60
  | 0 => ⟨(fun _ z => nomatch z), Nat.zero_le _⟩
  | i + 1 => by
    obtain ⟨h1, h2⟩ := choices_ok h h' hk L i
    obtain ⟨w1, w2⟩ := words_ok h h' hk (L + i) (60 - (choices m m' L i).length)
    unfold choices
    refine ⟨fun v hv => ?_, by rw [List.length_append]; omega⟩
    rcases List.mem_append.mp hv with hv | hv
    · have := h1 v hv
      exact ⟨this.1, by omega, this.2.2⟩
    · have := w1 v hv
      exact ⟨this.1, by omega, this.2.2⟩
theorem choices_pos (h : m.WF) (h' : m'.WF) (hk : m.k = m'.k) {w : Word} (hw : okw m.k w) (ne : m.out 0 w ≠ m'.out 0 w) (i : Nat) : 0 < (choices m m' w.length (i + 1)).length := by
  induction i with
  | zero =>
    unfold choices
    have hl := (lead_iff h h' hk w.length h.n0 h'.n0).mpr ⟨w, hw, rfl, ne⟩
    have := find_grows h h' hk (most := 60) w.length (word := []) (found := []) h.n0 h'.n0 hl (by decide)
    have z : ([] : List Word).length = 0 := rfl
    unfold choices
    show 0 < (([] : List Word) ++ wordsP m m' w.length 60).length
    rw [List.nil_append]
    unfold wordsP
    omega
  | succ i ih =>
    have : choices m m' w.length (i + 1 + 1) = choices m m' w.length (i + 1) ++ wordsP m m' (w.length + (i + 1)) (60 - (choices m m' w.length (i + 1)).length) := rfl
    rw [this, List.length_append]
    omega
end Mach
end Mai
/-! ## M3 -/
namespace Mai
def idx {α : Type} [DecidableEq α] (l : List α) (x : α) : Nat := l.idxOf x
theorem idx_lt {α : Type} [DecidableEq α] {l : List α} {x : α} (h : x ∈ l) : idx l x < l.length := List.idxOf_lt_length_of_mem h
theorem idx_get {α : Type} [DecidableEq α] {l : List α} {x : α} (h : x ∈ l) : l[idx l x]? = some x := idxOf_get h
/-! ### the table -/
section
variable (out : Word → Nat)
def ro (E : List Word) (r : Word) : List Nat := E.map fun c => out (r ++ c)
def further (k : Nat) (S : List Word) : List Word := (S.flatMap fun w => (List.range k).map fun a => w ++ [a]).filter fun r => !decide (r ∈ S)
def rowsOf (k : Nat) (S : List Word) : List Word := S ++ further k S
def wantStep (ws acc : List Word) (x : Word) : List Word := if x ∈ ws then acc else if x ∈ acc then acc else acc ++ [x]
def wanted (k : Nat) (S E ws : List Word) : List Word := (rowsOf k S).foldl (fun acc r => E.foldl (fun acc c => wantStep ws acc (r ++ c)) acc) []
def ext (k : Nat) (S E : List Word) : Option Word := (further k S).find? fun r => !decide (ro out E r ∈ S.map (ro out E))
def machP (k o : Nat) (S E : List Word) : Mach := ⟨k, o, S.map fun w => (List.range k).map fun a => idx (S.map (ro out E)) (ro out E (w ++ [a])), S.map out⟩
def mistAt (M : Mach) (S E : List Word) (i : Nat) : Option (Nat × Word) := (E.find? fun c => !decide (M.out i c = out (S.getD i [] ++ c))).map fun c => (i, c)
def mistP (M : Mach) (S E : List Word) : Option (Nat × Word) := (List.range S.length).findSome? (mistAt out M S E)
end
def path (M : Mach) : Nat → Word → List Nat
  | s, [] => [s]
  | s, a :: w => s :: path M (M.step s a) w
structure Srch where
  low : Nat
  high : Nat
  places : List Word
  o : Nat
  word : Word
def places (M : Mach) (S : List Word) (s : Nat) (w : Word) : List Word := (List.range (w.length + 1)).map fun i => S.getD ((path M s w).getD i 0) [] ++ w.drop i
def begin_ (M : Mach) (S : List Word) (s : Nat) (w : Word) : Srch := ⟨0, w.length, places M S s w, M.at_ (M.run s w), w⟩
structure Par where
  k : Nat
  o : Nat
  most : Nat
  out : Word → Nat
structure AS where
  ws : List Word
  S : List Word
  E : List Word
  q : List Word
  mach : Option Mach
  shown : Option Word
  srch : Option Srch
  c2 : Nat
  c3 : Nat
inductive Stp where
  | ask (w : Word)
  | propose (m : Mach)
  | full
  | done (m : Mach)
def popQ (ws : List Word) : List Word → Option (Word × List Word)
  | [] => none
  | x :: r => if x ∈ ws then popQ ws r else some (x, r)
section
variable (P : Par)
def fillP (c : AS) : AS × Option Stp := match popQ c.ws c.q with
  | some (x, r) => ({ c with q := r }, some (.ask x))
  | none => if wanted P.k c.S c.E c.ws ≠ [] then ({ c with q := wanted P.k c.S c.E c.ws }, none)
    else match ext P.out P.k c.S c.E with
      | some r => ({ c with q := [], S := c.S ++ [r] }, if P.most < (c.S ++ [r]).length then some .full else none)
      | none => match mistP P.out (machP P.out P.k P.o c.S c.E) c.S c.E with
        | some (i, w) => ({ c with q := [], mach := some (machP P.out P.k P.o c.S c.E), srch := some (begin_ (machP P.out P.k P.o c.S c.E) c.S i w) }, none)
        | none => ({ c with q := [], mach := some (machP P.out P.k P.o c.S c.E), c2 := c.c2 + 1 }, some (.propose (machP P.out P.k P.o c.S c.E).least))
def judgeP (c : AS) (M : Mach) (w : Word) : AS × Option Stp := if w ∈ c.ws then ({ c with shown := none, srch := some (begin_ M c.S 0 w) }, none) else (c, some (.ask w))
def lookP (c : AS) (s : Srch) : AS × Option Stp := if s.high - s.low = 1 then ({ c with srch := none, E := c.E ++ [s.word.drop (s.low + 1)] }, none)
  else if s.places.getD ((s.low + s.high) / 2) [] ∈ c.ws then
    ({ c with srch := some (if P.out (s.places.getD ((s.low + s.high) / 2) []) = s.o then { s with high := (s.low + s.high) / 2 } else { s with low := (s.low + s.high) / 2 }) }, none)
  else (c, some (.ask (s.places.getD ((s.low + s.high) / 2) [])))
end
/-! ### facts of the parts -/
section
variable {out : Word → Nat} {k o : Nat} {S E ws : List Word}
theorem mem_further {r : Word} : r ∈ further k S ↔ (∃ w ∈ S, ∃ a, a < k ∧ r = w ++ [a]) ∧ r ∉ S := by
  unfold further
  rw [List.mem_filter, List.mem_flatMap]
  constructor
  · rintro ⟨⟨w, hw, hr⟩, h⟩
    rw [List.mem_map] at hr
    obtain ⟨a, ha, rfl⟩ := hr
    exact ⟨⟨w, hw, a, List.mem_range.mp ha, rfl⟩, by simpa using h⟩
  · rintro ⟨⟨w, hw, a, ha, rfl⟩, h⟩
    exact ⟨⟨w, hw, List.mem_map.mpr ⟨a, List.mem_range.mpr ha, rfl⟩⟩, by simpa using h⟩
def Cell (k : Nat) (S E : List Word) (x : Word) : Prop := ∃ r ∈ rowsOf k S, ∃ c ∈ E, x = r ++ c
theorem wantStep_keep {acc : List Word} {x y : Word} (h : y ∈ acc) : y ∈ wantStep ws acc x := by
  unfold wantStep
  split
  · exact h
  · split
    · exact h
    · exact List.mem_append_left _ h
theorem wantStep_mem {acc : List Word} {x y : Word} (h : y ∈ wantStep ws acc x) : y ∈ acc ∨ (y = x ∧ x ∉ ws) := by
  unfold wantStep at h
  split at h
  · exact .inl h
  · rename_i c
    split at h
    · exact .inl h
    · rcases List.mem_append.mp h with h | h
      · exact .inl h
      · exact .inr ⟨by simpa using h, c⟩
theorem wantStep_in {acc : List Word} {x : Word} (h : x ∉ ws) : x ∈ wantStep ws acc x := by
  unfold wantStep
  rw [if_neg h]
  split
  · assumption
  · simp
theorem fold1_keep {r y : Word} : ∀ {E acc : List Word}, y ∈ acc → y ∈ E.foldl (fun acc c => wantStep ws acc (r ++ c)) acc
  | [], _, h => h
  | c :: E, acc, h => by rw [List.foldl_cons]; exact fold1_keep (wantStep_keep h)
theorem fold1_mem {r y : Word} : ∀ {E acc : List Word}, y ∈ E.foldl (fun acc c => wantStep ws acc (r ++ c)) acc → y ∈ acc ∨ ((∃ c ∈ E, y = r ++ c) ∧ y ∉ ws)
  | [], _, h => .inl h
  | c :: E, acc, h => by
    rw [List.foldl_cons] at h
    rcases fold1_mem h with h | ⟨⟨d, hd, e⟩, n⟩
    · rcases wantStep_mem h with h | ⟨e, n⟩
      · exact .inl h
      · exact .inr ⟨⟨c, List.mem_cons_self, e⟩, by rw [e]; exact n⟩
    · exact .inr ⟨⟨d, List.mem_cons_of_mem _ hd, e⟩, n⟩
theorem fold1_in {r c : Word} : ∀ {E acc : List Word}, c ∈ E → r ++ c ∉ ws → r ++ c ∈ E.foldl (fun acc c => wantStep ws acc (r ++ c)) acc
  | d :: E, acc, h, n => by
    rw [List.foldl_cons]
    rcases List.mem_cons.mp h with e | h
    · subst e
      exact fold1_keep (wantStep_in n)
    · exact fold1_in h n
theorem fold2_keep {y : Word} : ∀ {R acc : List Word}, y ∈ acc → y ∈ R.foldl (fun acc r => E.foldl (fun acc c => wantStep ws acc (r ++ c)) acc) acc
  | [], _, h => h
  | r :: R, acc, h => by rw [List.foldl_cons]; exact fold2_keep (fold1_keep h)
theorem fold2_mem {y : Word} : ∀ {R acc : List Word}, y ∈ R.foldl (fun acc r => E.foldl (fun acc c => wantStep ws acc (r ++ c)) acc) acc → y ∈ acc ∨ ((∃ r ∈ R, ∃ c ∈ E, y = r ++ c) ∧ y ∉ ws)
  | [], _, h => .inl h
  | r :: R, acc, h => by
    rw [List.foldl_cons] at h
    rcases fold2_mem h with h | ⟨⟨d, hd, e⟩, n⟩
    · rcases fold1_mem h with h | ⟨⟨c, hc, e⟩, n⟩
      · exact .inl h
      · exact .inr ⟨⟨r, List.mem_cons_self, c, hc, e⟩, n⟩
    · exact .inr ⟨⟨d, List.mem_cons_of_mem _ hd, e⟩, n⟩
theorem fold2_in {r c : Word} : ∀ {R acc : List Word}, r ∈ R → c ∈ E → r ++ c ∉ ws → r ++ c ∈ R.foldl (fun acc r => E.foldl (fun acc c => wantStep ws acc (r ++ c)) acc) acc
  | d :: R, acc, h, hc, n => by
    rw [List.foldl_cons]
    rcases List.mem_cons.mp h with e | h
    · subst e
      exact fold2_keep (fold1_in hc n)
    · exact fold2_in h hc n
theorem wanted_mem {y : Word} (h : y ∈ wanted k S E ws) : Cell k S E y ∧ y ∉ ws := by
  rcases fold2_mem h with h | h
  · exact nomatch h
  · exact h
theorem wanted_nil (h : wanted k S E ws = []) {y : Word} (c : Cell k S E y) : y ∈ ws := by
  obtain ⟨r, hr, c, hc, rfl⟩ := c
  refine Classical.byContradiction fun n => ?_
  have : r ++ c ∈ wanted k S E ws := fold2_in hr hc n
  rw [h] at this
  exact nomatch this
theorem popQ_some {x : Word} {r : List Word} : ∀ {q : List Word}, popQ ws q = some (x, r) → x ∉ ws ∧ x ∈ q ∧ ∀ y ∈ r, y ∈ q
  | [], h => by cases h
  | y :: q, h => by
    unfold popQ at h
    split at h
    · obtain ⟨a, b, c⟩ := popQ_some h
      exact ⟨a, List.mem_cons_of_mem _ b, fun z hz => List.mem_cons_of_mem _ (c z hz)⟩
    · rename_i n
      have e := Option.some.inj h
      rw [Prod.mk.injEq] at e
      obtain ⟨rfl, rfl⟩ := e
      exact ⟨n, List.mem_cons_self, fun z hz => List.mem_cons_of_mem _ hz⟩
theorem popQ_none : ∀ {q : List Word}, popQ ws q = none → ∀ y ∈ q, y ∈ ws
  | y :: q, h, z, hz => by
    unfold popQ at h
    split at h
    · rename_i c
      rcases List.mem_cons.mp hz with e | hz
      · rw [e]; exact c
      · exact popQ_none h z hz
    · cases h
theorem ro_app {c r : Word} : ro out (E ++ [c]) r = ro out E r ++ [out (r ++ c)] := by simp [ro]
theorem ro_at {r r' c : Word} (h : ro out E r = ro out E r') (hc : c ∈ E) : out (r ++ c) = out (r' ++ c) := by
  obtain ⟨i, hi, rfl⟩ := List.getElem_of_mem hc
  have z := congrArg (fun l => l[i]?) h
  simp only [ro, List.getElem?_map, List.getElem?_eq_getElem hi, Option.map_some, Option.some.injEq] at z
  exact z
theorem ro_ne {r r' : Word} (h : ro out E r ≠ ro out E r') : ∃ c ∈ E, out (r ++ c) ≠ out (r' ++ c) := by
  refine Classical.byContradiction fun n => h ?_
  unfold ro
  refine List.map_congr_left fun c hc => ?_
  exact Classical.byContradiction fun q => n ⟨c, hc, q⟩
/-- the table is closed -/
def Closed (out : Word → Nat) (k : Nat) (S E : List Word) : Prop := ∀ w ∈ S, ∀ a, a < k → ro out E (w ++ [a]) ∈ S.map (ro out E)
theorem closed_of (h : ext out k S E = none) : Closed out k S E := fun w hw a ha => by
  by_cases c : w ++ [a] ∈ S
  · exact List.mem_map_of_mem c
  · unfold ext at h
    rw [List.find?_eq_none] at h
    have := h (w ++ [a]) (mem_further.mpr ⟨⟨w, hw, a, ha, rfl⟩, c⟩)
    simpa using this
theorem ext_some {r : Word} (h : ext out k S E = some r) : r ∈ further k S ∧ ro out E r ∉ S.map (ro out E) := by
  unfold ext at h
  have h1 := List.find?_some h
  exact ⟨List.mem_of_find?_eq_some h, by simpa using h1⟩
theorem getD_mem {α : Type} {l : List α} {i : Nat} {d : α} (h : i < l.length) : l.getD i d ∈ l ∧ l[i]? = some (l.getD i d) := by
  have e : l.getD i d = l[i] := by rw [List.getD_eq_getElem?_getD, List.getElem?_eq_getElem h] <;> rfl
  rw [e]
  exact ⟨List.getElem_mem h, List.getElem?_eq_getElem h⟩
theorem mach_n : (machP out k o S E).n = S.length := by simp [machP, Mach.n]
theorem mach_at {i : Nat} (hi : i < S.length) : (machP out k o S E).at_ i = out (S.getD i []) := by
  unfold machP Mach.at_
  rw [List.getD_eq_getElem?_getD, List.getElem?_map, (getD_mem (d := []) hi).2]
  rfl
theorem mach_row {i : Nat} (hi : i < S.length) : (machP out k o S E).row i = (List.range k).map fun a => idx (S.map (ro out E)) (ro out E (S.getD i [] ++ [a])) := by
  unfold machP Mach.row
  rw [List.getD_eq_getElem?_getD, List.getElem?_map, (getD_mem (d := []) hi).2]
  rfl
theorem mach_step {i a : Nat} (hi : i < S.length) (ha : a < k) : (machP out k o S E).step i a = idx (S.map (ro out E)) (ro out E (S.getD i [] ++ [a])) := by
  unfold Mach.step
  rw [mach_row hi, List.getD_eq_getElem?_getD, List.getElem?_map, List.getElem?_eq_getElem (by simpa using ha)]
  simp
/-- by a letter the machine comes to the state word with the same row of outputs -/
theorem mach_next (cl : Closed out k S E) {i a : Nat} (hi : i < S.length) (ha : a < k) : (machP out k o S E).step i a < S.length ∧ ro out E (S.getD ((machP out k o S E).step i a) []) = ro out E (S.getD i [] ++ [a]) := by
  have hm := cl _ (getD_mem (d := []) hi).1 a ha
  rw [mach_step hi ha]
  have hl := idx_lt hm
  rw [List.length_map] at hl
  refine ⟨hl, ?_⟩
  have e := idx_get hm
  rw [List.getElem?_map, (getD_mem (d := []) hl).2] at e
  exact Option.some.inj e
theorem mach_wf (cl : Closed out k S E) (hk : 1 ≤ k ∧ k ≤ 4) (ho : 1 ≤ o ∧ o ≤ 6) (hS : 1 ≤ S.length ∧ S.length ≤ 30) (hout : ∀ w ∈ S, out w < o) : (machP out k o S E).WF where
  k1 := hk.1
  k4 := hk.2
  o1 := ho.1
  o6 := ho.2
  n1 := by simp [machP]; omega
  n30 := by simp [machP]; omega
  len := by simp [machP]
  rows := by
    intro r hr
    simp only [machP, List.mem_map] at hr
    obtain ⟨w, hw, rfl⟩ := hr
    refine ⟨by simp [machP], fun t ht => ?_⟩
    rw [List.mem_map] at ht
    obtain ⟨a, ha, rfl⟩ := ht
    have hl := idx_lt (cl w hw a (List.mem_range.mp ha))
    simpa [machP] using hl
  ous := by
    intro x hx
    simp only [machP, List.mem_map] at hx
    obtain ⟨w, hw, rfl⟩ := hx
    exact hout w hw
theorem path_length (M : Mach) : ∀ (w : Word) (s : Nat), (path M s w).length = w.length + 1
  | [], _ => rfl
  | a :: w, s => by
    show (path M (M.step s a) w).length + 1 = w.length + 1 + 1
    rw [path_length M w]
theorem path_at (M : Mach) : ∀ (w : Word) (s i : Nat), i ≤ w.length → (path M s w).getD i 0 = M.run s (w.take i)
  | [], s, i, h => by
    have : i = 0 := by simpa using h
    subst this
    rfl
  | a :: w, s, 0, _ => rfl
  | a :: w, s, i + 1, h => by
    show (s :: path M (M.step s a) w).getD (i + 1) 0 = M.run s (a :: w.take i)
    rw [List.getD_cons_succ, path_at M w _ i (by simpa using h)]
    rfl
theorem places_length (M : Mach) (S : List Word) (s : Nat) (w : Word) : (places M S s w).length = w.length + 1 := by simp [places]
theorem places_at {M : Mach} {s i : Nat} {w : Word} (h : i ≤ w.length) : (places M S s w).getD i [] = S.getD (M.run s (w.take i)) [] ++ w.drop i := by
  unfold places
  rw [List.getD_eq_getElem?_getD, List.getElem?_map, List.getElem?_eq_getElem (by simp; omega)]
  simp only [List.getElem_range, Option.map_some, Option.getD_some]
  rw [path_at M w s i h]
theorem run_lt (cl : Closed out k S E) : ∀ {w : Word} {i : Nat}, i < S.length → okw k w → (machP out k o S E).run i w < S.length
  | [], _, hi, _ => hi
  | a :: w, i, hi, hw => by
    rw [okw_cons] at hw
    rw [Mach.run_cons]
    exact run_lt cl (mach_next cl hi hw.1).1 hw.2
/-- the end of a search: a new column that parts -/
theorem search_end (cl : Closed out k S E) {s low : Nat} {w : Word} (hs : s < S.length) (hw : okw k w) (hl : low < w.length)
    (h1 : out ((places (machP out k o S E) S s w).getD low []) ≠ out ((places (machP out k o S E) S s w).getD (low + 1) [])) (hd : S.Pairwise fun v x => ro out E v ≠ ro out E x) :
    w.drop (low + 1) ∉ E ∧ ∃ r ∈ further k S, ro out (E ++ [w.drop (low + 1)]) r ∉ S.map (ro out (E ++ [w.drop (low + 1)])) := by
  rw [places_at (Nat.le_of_lt hl), places_at hl] at h1
  have hw1 : okw k (w.take low) := fun a ha => hw a (List.mem_of_mem_take ha)
  have hq := run_lt (o := o) cl hs hw1
  have ha : w[low] < k := hw _ (List.getElem_mem hl)
  have e1 : w.take (low + 1) = w.take low ++ [w[low]] := by rw [List.take_append_getElem hl]
  have e2 : w.drop low = [w[low]] ++ w.drop (low + 1) := by rw [List.singleton_append, List.drop_eq_getElem_cons hl]
  rw [e1, Mach.run_snoc, e2, ← List.append_assoc] at h1
  generalize (machP out k o S E).run s (w.take low) = q at h1 hq
  obtain ⟨hq2, er⟩ := mach_next (o := o) cl hq ha
  generalize (machP out k o S E).step q w[low] = q2 at h1 hq2 er
  have nE : w.drop (low + 1) ∉ E := fun hm => h1 (ro_at er.symm hm)
  refine ⟨nE, S.getD q [] ++ [w[low]], ?_, ?_⟩
  · refine mem_further.mpr ⟨⟨_, (getD_mem hq).1, _, ha, rfl⟩, fun hm => ?_⟩
    have e3 : S.getD q [] ++ [w[low]] = S.getD q2 [] := by
      refine Classical.byContradiction fun ne => ?_
      obtain ⟨j, hj, ej⟩ := List.getElem_of_mem hm
      have hd2 := List.pairwise_iff_getElem.mp hd
      have gq : S.getD q2 [] = S[q2] := by rw [List.getD_eq_getElem?_getD, List.getElem?_eq_getElem hq2] <;> rfl
      rw [← ej, gq] at er ne
      rcases Nat.lt_trichotomy j q2 with c | c | c
      · exact hd2 j q2 hj hq2 c er.symm
      · subst c; exact ne rfl
      · exact hd2 q2 j hq2 hj c er
    exact h1 (by rw [e3])
  · intro hm
    rw [List.mem_map] at hm
    obtain ⟨v, hv, e⟩ := hm
    rw [ro_app, ro_app] at e
    have ea := List.append_inj' e rfl
    have e4 : v = S.getD q2 [] := by
      refine Classical.byContradiction fun ne => ?_
      have e5 := ea.1
      rw [← er] at e5
      obtain ⟨j, hj, ej⟩ := List.getElem_of_mem hv
      have hd2 := List.pairwise_iff_getElem.mp hd
      have gq : S.getD q2 [] = S[q2] := by rw [List.getD_eq_getElem?_getD, List.getElem?_eq_getElem hq2] <;> rfl
      rw [← ej, gq] at e5 ne
      rcases Nat.lt_trichotomy j q2 with c | c | c
      · exact hd2 j q2 hj hq2 c e5
      · subst c; exact ne rfl
      · exact hd2 q2 j hq2 hj c e5.symm
    subst e4
    have := ea.2
    simp only [List.cons.injEq, and_true] at this
    exact h1 this.symm
theorem mist_some {M : Mach} {i : Nat} {w : Word} (h : mistP out M S E = some (i, w)) : i < S.length ∧ w ∈ E ∧ M.out i w ≠ out (S.getD i [] ++ w) := by
  unfold mistP at h
  obtain ⟨j, hj, e⟩ := List.exists_of_findSome?_eq_some h
  unfold mistAt at e
  cases q : E.find? fun c => !decide (M.out j c = out (S.getD j [] ++ c)) with
  | none => rw [q] at e; cases e
  | some c =>
    rw [q] at e
    have e2 := Option.some.inj e
    rw [Prod.mk.injEq] at e2
    obtain ⟨rfl, rfl⟩ := e2
    have h1 := List.find?_some q
    exact ⟨List.mem_range.mp hj, List.mem_of_find?_eq_some q, by simpa using h1⟩
end
/-! ### binary digits -/
def digs (n : Nat) : Nat := if h : n = 0 then 0 else digs (n / 2) + 1
  termination_by n
theorem digs_zero : digs 0 = 0 := by unfold digs; simp
theorem digs_pos {n : Nat} (h : n ≠ 0) : digs n = digs (n / 2) + 1 := by
  rw [digs]
  simp [h]
theorem lt_digs : ∀ n : Nat, n < 2 ^ digs n := fun n => by
  induction n using Nat.strongRecOn with
  | ind n ih =>
    by_cases h : n = 0
    · subst h; rw [digs_zero]; decide
    · rw [digs_pos h, Nat.pow_succ]
      have := ih (n / 2) (by omega)
      omega
theorem digs_mono : ∀ {b a : Nat}, a ≤ b → digs a ≤ digs b := fun {b} => by
  induction b using Nat.strongRecOn with
  | ind b ih =>
    intro a h
    by_cases h0 : a = 0
    · subst h0; rw [digs_zero]; exact Nat.zero_le _
    · have hb : b ≠ 0 := by omega
      rw [digs_pos h0, digs_pos hb]
      have := ih (b / 2) (by omega) (a := a / 2) (by omega)
      omega
end Mai
/-! ## M4 -/
namespace Mai
theorem nodup_sub {α : Type} [DecidableEq α] : ∀ {l r : List α}, l.Nodup → (∀ x ∈ l, x ∈ r) → l.length ≤ r.length
  | [], _, _, _ => Nat.zero_le _
  | a :: l, r, h, s => by
    rw [List.nodup_cons] at h
    have ha := s a List.mem_cons_self
    have h1 : (r.erase a).length = r.length - 1 := List.length_erase_of_mem ha
    have h2 := nodup_sub (l := l) (r := r.erase a) h.2 fun x hx => (List.mem_erase_of_ne fun e => h.1 (by rw [← e]; exact hx)).mpr (s x (List.mem_cons_of_mem _ hx))
    have : 0 < r.length := List.length_pos_of_mem ha
    simp only [List.length_cons]
    omega
def base (k : Nat) (S : List Word) : List Word := [] :: S.flatMap fun w => (List.range k).map fun a => w ++ [a]
def cellsB (k : Nat) (S E : List Word) : List Word := (base k S).flatMap fun r => E.map fun c => r ++ c
theorem flat_len {α β : Type} {n : Nat} (f : α → List β) : ∀ {l : List α}, (∀ x ∈ l, (f x).length = n) → (l.flatMap f).length = l.length * n
  | [], _ => by simp
  | a :: l, h => by
    rw [List.flatMap_cons, List.length_append, h a List.mem_cons_self, flat_len f fun x hx => h x (List.mem_cons_of_mem _ hx), List.length_cons, Nat.succ_mul]
    omega
theorem base_len (k : Nat) (S : List Word) : (base k S).length = S.length * k + 1 := by
  unfold base
  rw [List.length_cons, flat_len (n := k) _ fun x _ => by simp]
theorem cellsB_len (k : Nat) (S E : List Word) : (cellsB k S E).length = (S.length * k + 1) * E.length := by
  unfold cellsB
  rw [flat_len (n := E.length) _ fun x _ => by simp, base_len]
theorem mem_base {k : Nat} {S : List Word} {r : Word} : r ∈ base k S ↔ r = [] ∨ ∃ w ∈ S, ∃ a, a < k ∧ r = w ++ [a] := by
  unfold base
  rw [List.mem_cons, List.mem_flatMap]
  constructor
  · rintro (h | ⟨w, hw, h⟩)
    · exact .inl h
    · rw [List.mem_map] at h
      obtain ⟨a, ha, rfl⟩ := h
      exact .inr ⟨w, hw, a, List.mem_range.mp ha, rfl⟩
  · rintro (h | ⟨w, hw, a, ha, rfl⟩)
    · exact .inl h
    · exact .inr ⟨w, hw, List.mem_map.mpr ⟨a, List.mem_range.mpr ha, rfl⟩⟩
theorem mem_cellsB {k : Nat} {S E : List Word} {x : Word} : x ∈ cellsB k S E ↔ ∃ r ∈ base k S, ∃ c ∈ E, x = r ++ c := by
  unfold cellsB
  rw [List.mem_flatMap]
  constructor
  · rintro ⟨r, hr, h⟩
    rw [List.mem_map] at h
    obtain ⟨c, hc, rfl⟩ := h
    exact ⟨r, hr, c, hc, rfl⟩
  · rintro ⟨r, hr, c, hc, rfl⟩
    exact ⟨r, hr, List.mem_map.mpr ⟨c, hc, rfl⟩⟩
structure Ctx (P : Par) (sec : Mach) : Prop where
  wf : sec.WF
  k : P.k = sec.k
  o : P.o = sec.o
  out : ∀ w, P.out w = sec.out 0 w
  m1 : 1 ≤ P.most
  m30 : P.most ≤ 30
section
variable (P : Par)
abbrev AS.M (c : AS) : Mach := machP P.out P.k P.o c.S c.E
/-- what is always true; X: the words that were asked off the table -/
structure Base (c : AS) (X : List Word) : Prop where
  wsn : c.ws.Nodup
  wso : ∀ w ∈ c.ws, okw P.k w
  wsc : ∀ w ∈ c.ws, w ∈ cellsB P.k c.S c.E ∨ w ∈ X
  S0 : ∃ r, c.S = [] :: r
  Sl : ∀ i w, c.S[i]? = some w → w.length ≤ i ∧ okw P.k w
  Scl : ∀ w ∈ c.S, w = [] ∨ ∃ v ∈ c.S, ∃ a, a < P.k ∧ w = v ++ [a]
  Sdis : c.S.Pairwise fun v w => ro P.out c.E v ≠ ro P.out c.E w
  E0 : [] ∈ c.E
  En : c.E.Nodup
  Eo : ∀ x ∈ c.E, okw P.k x ∧ x.length ≤ c.c3
  c3 : c.c3 ≤ 300
def Pend (c : AS) : Prop := ∃ r ∈ further P.k c.S, ro P.out c.E r ∉ c.S.map (ro P.out c.E)
structure FillPh (c : AS) (X : List Word) (pend : Bool) : Prop where
  b : Base P c X
  se : c.srch = none
  sh : c.shown = none
  q : ∀ x ∈ c.q, Cell P.k c.S c.E x
  le : c.S.length ≤ P.most
  ec : c.E.length ≤ c.S.length + pend.toNat
  pe : pend = true → Pend P c
  c2 : c.c2 + 1 ≤ c.E.length
  X : X.length ≤ (c.E.length - 1) * (digs c.c3 + 1)
structure Cl (c : AS) (X : List Word) : Prop where
  b : Base P c X
  mach : c.mach = some (c.M P)
  cl : Closed P.out P.k c.S c.E
  q : c.q = []
  le : c.S.length ≤ P.most
  ec : c.E.length ≤ c.S.length
structure JudgePh (c : AS) (X : List Word) (w : Word) : Prop where
  cl : Cl P c X
  c2 : c.c2 ≤ c.E.length
  se : c.srch = none
  sh : c.shown = some w
  ne : (c.M P).out 0 w ≠ P.out w
  ok : okw P.k w
  len : w.length ≤ c.c3
  X : X.length ≤ (c.E.length - 1) * (digs c.c3 + 1) + (if w ∈ c.ws then 1 else 0)
structure SearchPh (c : AS) (X : List Word) (s : Srch) (i : Nat) (w : Word) : Prop where
  cl : Cl P c X
  c2 : c.c2 ≤ c.E.length
  se : c.srch = some s
  sh : c.shown = none
  pl : s.places = places (c.M P) c.S i w
  wd : s.word = w
  i : i < c.S.length
  ok : okw P.k w
  len : w.length ≤ c.c3
  lh : s.low < s.high
  hl : s.high ≤ w.length
  no : P.out (s.places.getD s.low []) ≠ s.o
  ye : P.out (s.places.getD s.high []) = s.o
  X : ∃ r, s.high - s.low ≤ 2 ^ r ∧ X.length + r ≤ (c.E.length - 1) * (digs c.c3 + 1) + digs c.c3 + 1 + (if 2 ≤ s.high - s.low ∧ s.places.getD ((s.low + s.high) / 2) [] ∈ c.ws then 1 else 0)
structure PropPh (c : AS) (X : List Word) : Prop where
  cl : Cl P c X
  c2 : c.c2 ≤ c.E.length
  se : c.srch = none
  sh : c.shown = none
  X : X.length ≤ (c.E.length - 1) * (digs c.c3 + 1)
variable (N : Nat)
inductive W : Nat → AS → Prop where
  | fill {c X pend} : FillPh P c X pend → W ((N - c.S.length) * 2000 + (if pend then 2 else 1000) + (if (popQ c.ws c.q).isSome then 0 else 1)) c
  | judge {c X w} : JudgePh P c X w → W ((N - c.S.length) * 2000 + 900) c
  | search {c X s i w} : SearchPh P c X s i w → W ((N - c.S.length) * 2000 + 10 + (s.high - s.low)) c
def nn : Nat := min N (P.most + 1)
structure Bd (c : AS) : Prop where
  ws : c.ws.length ≤ nn P N * nn P N * (P.k + 1) + nn P N * (digs c.c3 + 2)
  c2 : c.c2 ≤ nn P N
  nd : c.ws.Nodup
  c3 : c.c3 ≤ 300
def R (c : AS) : Stp → Prop
  | .ask w => Bd P N c ∧ w ∉ c.ws ∧ okw P.k w ∧ w.length ≤ 400 ∧ ∃ m, W P N m { c with ws := c.ws ++ [w] }
  | .propose p => Bd P N c ∧ (c.M P).WF ∧ p = (c.M P).least ∧ c.S.length ≤ P.most ∧ ∀ w, okw P.k w → w.length ≤ 300 → P.out w ≠ (c.M P).out 0 w → ∃ m, W P N m { c with shown := some w, c3 := max c.c3 w.length }
  | .full => Bd P N c ∧ P.most < N
  | .done _ => False
/-- what the code leans on -/
structure Pre (c : AS) : Prop where
  S0 : ∃ r, c.S = [] :: r
  Sn : c.S.Nodup
  Sl : c.S.length ≤ 30
  El : c.E.length ≤ 31
  E0 : [] ∈ c.E
  Sw : ∀ w ∈ c.S, okw P.k w ∧ w.length ≤ 30
  Ew : ∀ w ∈ c.E, okw P.k w ∧ w.length ≤ 300
  wsl : c.ws.length ≤ 100000
  wsw : ∀ w ∈ c.ws, okw P.k w
  qw : ∀ x ∈ c.q, Cell P.k c.S c.E x
  judge : ∀ w, c.srch = none → c.shown = some w → c.mach = some (c.M P) ∧ Closed P.out P.k c.S c.E ∧ (c.M P).out 0 w ≠ P.out w ∧ okw P.k w ∧ w.length ≤ 300
  look : ∀ s, c.srch = some s → s.low < s.high ∧ s.high ≤ s.word.length ∧ s.places.length = s.word.length + 1 ∧ s.word.length ≤ 300 ∧ okw P.k s.word ∧ (∀ p ∈ s.places, okw P.k p ∧ p.length ≤ 400) ∧ (s.high - s.low = 1 → s.word.drop (s.low + 1) ∉ c.E)
def stepP (c : AS) : AS × Option Stp := match c.srch with
  | some s => lookP P c s
  | none => match c.shown with
    | some w => judgeP c (c.mach.getD ⟨0, 0, [], []⟩) w
    | none => fillP P c
end
section
variable {P : Par} {sec : Mach} {c : AS} {X : List Word}
theorem Base.Sn (b : Base P c X) : c.S.Nodup := b.Sdis.imp fun h e => h (by rw [e])
theorem Base.Sp (b : Base P c X) : 0 < c.S.length := by
  obtain ⟨r, e⟩ := b.S0
  rw [e]
  simp
theorem Base.S00 (b : Base P c X) : c.S.getD 0 [] = [] := by
  obtain ⟨r, e⟩ := b.S0
  rw [e]
  rfl
theorem Base.Sok (b : Base P c X) {w : Word} (h : w ∈ c.S) : okw P.k w ∧ w.length < c.S.length := by
  obtain ⟨i, hi, rfl⟩ := List.getElem_of_mem h
  have := b.Sl i _ (List.getElem?_eq_getElem hi)
  exact ⟨this.2, by omega⟩
theorem Base.rows (b : Base P c X) {r : Word} (h : r ∈ rowsOf P.k c.S) : r ∈ base P.k c.S ∧ okw P.k r ∧ r.length ≤ c.S.length := by
  unfold rowsOf at h
  rcases List.mem_append.mp h with h | h
  · have := b.Sok h
    refine ⟨mem_base.mpr ?_, this.1, by omega⟩
    rcases b.Scl r h with e | ⟨v, hv, a, ha, e⟩
    · exact .inl e
    · exact .inr ⟨v, hv, a, ha, e⟩
  · obtain ⟨⟨w, hw, a, ha, rfl⟩, _⟩ := mem_further.mp h
    have := b.Sok hw
    exact ⟨mem_base.mpr (.inr ⟨w, hw, a, ha, rfl⟩), okw_app.mpr ⟨this.1, okw_cons.mpr ⟨ha, okw_nil _⟩⟩, by simp; omega⟩
theorem Base.cell (b : Base P c X) {x : Word} (h : Cell P.k c.S c.E x) : x ∈ cellsB P.k c.S c.E ∧ okw P.k x ∧ x.length ≤ c.S.length + c.c3 := by
  obtain ⟨r, hr, d, hd, rfl⟩ := h
  obtain ⟨h1, h2, h3⟩ := b.rows hr
  have h4 := b.Eo d hd
  exact ⟨mem_cellsB.mpr ⟨r, h1, d, hd, rfl⟩, okw_app.mpr ⟨h2, h4.1⟩, by rw [List.length_append]; omega⟩
theorem Base.wle (b : Base P c X) : c.ws.length ≤ (c.S.length * P.k + 1) * c.E.length + X.length := by
  have := nodup_sub b.wsn (r := cellsB P.k c.S c.E ++ X) fun x hx => (b.wsc x hx).elim (List.mem_append_left _) (List.mem_append_right _)
  rw [List.length_append, cellsB_len] at this
  exact this
theorem parted (x : Ctx P sec) {S E : List Word} (hS : ∀ w ∈ S, okw P.k w) (hE : ∀ w ∈ E, okw P.k w) (hd : S.Pairwise fun v w => ro P.out E v ≠ ro P.out E w) : S.length ≤ sec.least.n := by
  refine Mach.parted_le x.wf (fun v hv => x.k ▸ hS v hv) (hd.imp fun {v w} h => ?_)
  obtain ⟨d, hd, ne⟩ := ro_ne h
  exact ⟨d, x.k ▸ hE d hd, by rw [← x.out, ← x.out]; exact ne⟩
theorem Base.SN (x : Ctx P sec) (b : Base P c X) : c.S.length ≤ sec.least.n := parted x (fun _ h => (b.Sok h).1) (fun _ h => (b.Eo _ h).1) b.Sdis
theorem pw_snoc {α : Type} {Q : α → α → Prop} {l : List α} {r : α} (h : l.Pairwise Q) (hr : ∀ v ∈ l, Q v r) : (l ++ [r]).Pairwise Q := by
  rw [List.pairwise_append]
  exact ⟨h, by simp, fun a ha b hb => by
    have : b = r := by simpa using hb
    rw [this]
    exact hr a ha⟩
theorem Base.SN1 (x : Ctx P sec) (b : Base P c X) (p : Pend P c) : c.S.length + 1 ≤ sec.least.n := by
  obtain ⟨r, hr, nr⟩ := p
  have hr2 := b.rows (r := r) (List.mem_append_right _ hr)
  have := parted x (S := c.S ++ [r]) (E := c.E) (fun w hw => by
    rcases List.mem_append.mp hw with hw | hw
    · exact (b.Sok hw).1
    · have : w = r := by simpa using hw
      rw [this]
      exact hr2.2.1) (fun _ h => (b.Eo _ h).1) (pw_snoc b.Sdis fun v hv e => nr (by rw [← e]; exact List.mem_map_of_mem hv))
  rw [List.length_append] at this
  exact this
/-- the bound, by numbers -/
theorem bound_nat {s e n k L X : Nat} (hs : s ≤ n) (he : e ≤ n) (hX : X ≤ n * (L + 1)) : (s * k + 1) * e + X ≤ n * n * (k + 1) + n * (L + 2) := by
  have h1 : s * k + 1 ≤ n * k + 1 := Nat.add_le_add_right (Nat.mul_le_mul_right k hs) 1
  have h2 : (s * k + 1) * e ≤ (n * k + 1) * n := Nat.mul_le_mul h1 he
  have e1 : (n * k + 1) * n = n * n * k + n := by rw [Nat.add_mul, Nat.one_mul, Nat.mul_right_comm]
  have e2 : n * n * (k + 1) = n * n * k + n * n := by rw [Nat.mul_add, Nat.mul_one]
  have e3 : n * (L + 2) = n * (L + 1) + n := by rw [← Nat.mul_succ]
  omega
theorem Base.bd (b : Base P c X) {N : Nat} (hs : c.S.length ≤ nn P N) (he : c.E.length ≤ nn P N) (hc : c.c2 ≤ c.E.length) (hX : X.length ≤ c.E.length * (digs c.c3 + 1)) : Bd P N c where
  ws := Nat.le_trans b.wle (bound_nat hs he (Nat.le_trans hX (Nat.mul_le_mul_right _ he)))
  c2 := Nat.le_trans hc he
  nd := b.wsn
  c3 := b.c3
theorem Cl.wf (x : Ctx P sec) (h : Cl P c X) : (c.M P).WF :=
  mach_wf h.cl ⟨x.k ▸ x.wf.k1, x.k ▸ x.wf.k4⟩ ⟨x.o ▸ x.wf.o1, x.o ▸ x.wf.o6⟩ ⟨h.b.Sp, Nat.le_trans h.le x.m30⟩ fun w hw => by
    rw [x.out, x.o]
    exact x.wf.at_lt (x.wf.run x.wf.n0 (x.k ▸ (h.b.Sok hw).1))
theorem nn_le {N : Nat} {s : Nat} (h1 : s ≤ N) (h2 : s ≤ P.most + 1) : s ≤ nn P N := by unfold nn; omega
/-- a word was asked: it stands among the known -/
theorem Base.more (b : Base P c X) {w : Word} (hn : w ∉ c.ws) (ho : okw P.k w) (Y : List Word) (hY : ∀ v ∈ X, v ∈ Y) (h : w ∈ cellsB P.k c.S c.E ∨ w ∈ Y) : Base P { c with ws := c.ws ++ [w] } Y where
  wsn := Mach.snoc_nodup b.wsn hn
  wso := fun v hv => by
    rcases List.mem_append.mp hv with hv | hv
    · exact b.wso v hv
    · have : v = w := by simpa using hv
      rw [this]; exact ho
  wsc := fun v hv => by
    rcases List.mem_append.mp hv with hv | hv
    · exact (b.wsc v hv).imp_right (hY v)
    · have : v = w := by simpa using hv
      rw [this]; exact h
  S0 := b.S0
  Sl := b.Sl
  Scl := b.Scl
  Sdis := b.Sdis
  E0 := b.E0
  En := b.En
  Eo := b.Eo
  c3 := b.c3
theorem Base.swap {c' : AS} (b : Base P c X) (e1 : c'.ws = c.ws) (e2 : c'.S = c.S) (e3 : c'.E = c.E) (e4 : c.c3 ≤ c'.c3) (e5 : c'.c3 ≤ 300) : Base P c' X := by
  obtain ⟨ws, S, E, q, mach, shown, srch, c2, c3⟩ := c'
  obtain ⟨ws', S', E', q', mach', shown', srch', c2', c3'⟩ := c
  simp only at e1 e2 e3 e4 e5
  subst e1 e2 e3
  exact ⟨b.wsn, b.wso, b.wsc, b.S0, b.Sl, b.Scl, b.Sdis, b.E0, b.En, fun x hx => ⟨(b.Eo x hx).1, Nat.le_trans (b.Eo x hx).2 e4⟩, e5⟩
theorem Base.pre (x : Ctx P sec) (b : Base P c X) (hle : c.S.length ≤ P.most) (he : c.E.length ≤ 31) (hX : X.length ≤ 20000) (hq : ∀ x ∈ c.q, Cell P.k c.S c.E x)
    (hj : ∀ w, c.srch = none → c.shown = some w → c.mach = some (c.M P) ∧ Closed P.out P.k c.S c.E ∧ (c.M P).out 0 w ≠ P.out w ∧ okw P.k w ∧ w.length ≤ 300)
    (hl : ∀ s, c.srch = some s → s.low < s.high ∧ s.high ≤ s.word.length ∧ s.places.length = s.word.length + 1 ∧ s.word.length ≤ 300 ∧ okw P.k s.word ∧ (∀ p ∈ s.places, okw P.k p ∧ p.length ≤ 400) ∧ (s.high - s.low = 1 → s.word.drop (s.low + 1) ∉ c.E)) : Pre P c where
  S0 := b.S0
  Sn := b.Sn
  Sl := Nat.le_trans hle x.m30
  El := he
  E0 := b.E0
  Sw := fun w hw => ⟨(b.Sok hw).1, by have := (b.Sok hw).2; have := x.m30; omega⟩
  Ew := fun w hw => ⟨(b.Eo w hw).1, Nat.le_trans (b.Eo w hw).2 b.c3⟩
  wsl := by
    have h1 := b.wle
    have k4 : P.k ≤ 4 := x.k ▸ x.wf.k4
    have h2 : c.S.length ≤ 30 := Nat.le_trans hle x.m30
    have h3 : c.S.length * P.k + 1 ≤ 30 * 4 + 1 := Nat.add_le_add_right (Nat.mul_le_mul h2 k4) 1
    have h4 : (c.S.length * P.k + 1) * c.E.length ≤ (30 * 4 + 1) * 31 := Nat.mul_le_mul h3 he
    omega
  wsw := b.wso
  qw := hq
  judge := hj
  look := hl
end
end Mai
/-! ## M5 -/
namespace Mai
theorem digs_le : ∀ {k n : Nat}, n < 2 ^ k → digs n ≤ k
  | 0, n, h => by
    have : n = 0 := by simpa using h
    subst this
    rw [digs_zero]
    exact Nat.le_refl _
  | k + 1, n, h => by
    by_cases h0 : n = 0
    · subst h0; rw [digs_zero]; exact Nat.zero_le _
    · rw [digs_pos h0]
      have := digs_le (k := k) (n := n / 2) (by rw [Nat.pow_succ] at h; omega)
      omega
theorem digs300 {n : Nat} (h : n ≤ 300) : digs n ≤ 9 := digs_le (k := 9) (by omega)
theorem popQ_wanted {ws : List Word} : ∀ {l : List Word}, l ≠ [] → (∀ y ∈ l, y ∉ ws) → (popQ ws l).isSome = true
  | [], h, _ => absurd rfl h
  | x :: r, _, h => by
    unfold popQ
    rw [if_neg (h x List.mem_cons_self)]
    rfl
section
variable {P : Par} {sec : Mach} {c : AS} {X : List Word}
theorem Base.grow (b : Base P c X) {r : Word} (hr : r ∈ further P.k c.S) (nr : ro P.out c.E r ∉ c.S.map (ro P.out c.E)) (q : List Word) : Base P { c with q := q, S := c.S ++ [r] } X where
  wsn := b.wsn
  wso := b.wso
  wsc := fun w hw => (b.wsc w hw).imp_left fun h => by
    obtain ⟨u, hu, d, hd, e⟩ := mem_cellsB.mp h
    refine mem_cellsB.mpr ⟨u, mem_base.mpr ?_, d, hd, e⟩
    rcases mem_base.mp hu with z | ⟨v, hv, a, ha, z⟩
    · exact .inl z
    · exact .inr ⟨v, List.mem_append_left _ hv, a, ha, z⟩
  S0 := by
    obtain ⟨t, e⟩ := b.S0
    exact ⟨t ++ [r], by show c.S ++ [r] = _; rw [e, List.cons_append]⟩
  Sl := fun i w h => by
    have h : (c.S ++ [r])[i]? = some w := h
    by_cases q : i < c.S.length
    · rw [List.getElem?_append_left q] at h
      exact b.Sl i w h
    · have hi : i = c.S.length := by
        have := (List.getElem?_eq_some_iff.mp h).1
        rw [List.length_append] at this
        simp at this
        omega
      subst hi
      rw [List.getElem?_append_right (Nat.le_refl _)] at h
      simp at h
      subst h
      have := b.rows (r := r) (List.mem_append_right _ hr)
      exact ⟨this.2.2, this.2.1⟩
  Scl := fun w hw => by
    rcases List.mem_append.mp hw with hw | hw
    · rcases b.Scl w hw with e | ⟨v, hv, a, ha, e⟩
      · exact .inl e
      · exact .inr ⟨v, List.mem_append_left _ hv, a, ha, e⟩
    · have : w = r := by simpa using hw
      rw [this]
      obtain ⟨⟨v, hv, a, ha, e⟩, _⟩ := mem_further.mp hr
      exact .inr ⟨v, List.mem_append_left _ hv, a, ha, e⟩
  Sdis := pw_snoc b.Sdis fun v hv e => nr (by rw [← e]; exact List.mem_map_of_mem hv)
  E0 := b.E0
  En := b.En
  Eo := b.Eo
  c3 := b.c3
theorem Base.wide (b : Base P c X) {d : Word} (hd : d ∉ c.E) (ho : okw P.k d) (hl : d.length ≤ c.c3) : Base P { c with srch := none, E := c.E ++ [d] } X where
  wsn := b.wsn
  wso := b.wso
  wsc := fun w hw => (b.wsc w hw).imp_left fun h => by
    obtain ⟨u, hu, e, he, z⟩ := mem_cellsB.mp h
    exact mem_cellsB.mpr ⟨u, hu, e, List.mem_append_left _ he, z⟩
  S0 := b.S0
  Sl := b.Sl
  Scl := b.Scl
  Sdis := b.Sdis.imp fun {v w} h e => h (by
    have e : ro P.out (c.E ++ [d]) v = ro P.out (c.E ++ [d]) w := e
    rw [ro_app, ro_app] at e
    exact (List.append_inj' e rfl).1)
  E0 := List.mem_append_left _ b.E0
  En := Mach.snoc_nodup b.En hd
  Eo := fun x hx => by
    rcases List.mem_append.mp hx with hx | hx
    · exact b.Eo x hx
    · have : x = d := by simpa using hx
      rw [this]
      exact ⟨ho, hl⟩
  c3 := b.c3
theorem mulL {e L : Nat} (h : 1 ≤ e) : (e - 1) * (L + 1) + L + 1 = e * (L + 1) := by
  obtain ⟨f, rfl⟩ : ∃ f, e = f + 1 := ⟨e - 1, by omega⟩
  rw [Nat.add_sub_cancel, Nat.succ_mul]
  omega
theorem Base.Ep (b : Base P c X) : 1 ≤ c.E.length := List.length_pos_of_mem b.E0
theorem Xle {e L : Nat} {n : Nat} (h : n ≤ (e - 1) * (L + 1)) : n ≤ e * (L + 1) := Nat.le_trans h (Nat.mul_le_mul_right _ (Nat.sub_le _ _))
theorem Xsmall {e L n : Nat} (he : e ≤ 31) (hL : L ≤ 9) (h : n ≤ e * (L + 1)) : n ≤ 20000 := by
  have : e * (L + 1) ≤ 31 * 10 := Nat.mul_le_mul he (by omega)
  omega
theorem FillPh.nn (x : Ctx P sec) {pend : Bool} (h : FillPh P c X pend) : c.S.length ≤ nn P sec.least.n ∧ c.E.length ≤ nn P sec.least.n := by
  refine ⟨nn_le (h.b.SN x) (Nat.le_succ_of_le h.le), ?_⟩
  have ec := h.ec
  cases pend with
  | true =>
    have := h.b.SN1 x (h.pe rfl)
    have le := h.le
    refine nn_le ?_ ?_
    · simp at ec; omega
    · simp at ec; omega
  | false =>
    have := h.b.SN x
    have le := h.le
    refine nn_le ?_ ?_
    · simp at ec; omega
    · simp at ec; omega
theorem nn31 (x : Ctx P sec) {n N : Nat} (h : n ≤ nn P N) : n ≤ 31 := by
  have := x.m30
  unfold Mai.nn at h
  omega
theorem FillPh.bd (x : Ctx P sec) {pend : Bool} (h : FillPh P c X pend) : Bd P sec.least.n c := by
  obtain ⟨h1, h2⟩ := h.nn x
  have := h.c2
  exact h.b.bd h1 h2 (by omega) (Xle h.X)
theorem FillPh.pre (x : Ctx P sec) {pend : Bool} (h : FillPh P c X pend) : Pre P c := by
  obtain ⟨h1, h2⟩ := h.nn x
  refine h.b.pre x h.le (nn31 x h2) (Xsmall (nn31 x h2) (digs300 h.b.c3) (Xle h.X)) h.q (fun w _ z => ?_) (fun s z => ?_)
  · rw [h.sh] at z; cases z
  · rw [h.se] at z; cases z
theorem Cl.nn (x : Ctx P sec) (h : Cl P c X) : c.S.length ≤ nn P sec.least.n ∧ c.E.length ≤ nn P sec.least.n := by
  have h1 := nn_le (P := P) (h.b.SN x) (Nat.le_succ_of_le h.le)
  exact ⟨h1, Nat.le_trans h.ec h1⟩
theorem mach_out0 {i : Nat} (hi : i < c.S.length) : (c.M P).out i [] = P.out (c.S.getD i []) := mach_at hi
theorem begin_ph (x : Ctx P sec) (h : Cl P c X) {i : Nat} {w : Word} (hi : i < c.S.length) (hw : okw P.k w) (hl : w.length ≤ c.c3) (ne : (c.M P).out i w ≠ P.out (c.S.getD i [] ++ w)) (h2 : c.c2 ≤ c.E.length)
    (hX : X.length ≤ (c.E.length - 1) * (digs c.c3 + 1) + 1) : SearchPh P { c with shown := none, srch := some (begin_ (c.M P) c.S i w) } X (begin_ (c.M P) c.S i w) i w where
  cl := ⟨h.b.swap rfl rfl rfl (Nat.le_refl _) h.b.c3, h.mach, h.cl, h.q, h.le, h.ec⟩
  c2 := h2
  se := rfl
  sh := rfl
  pl := rfl
  wd := rfl
  i := hi
  ok := hw
  len := hl
  lh := by
    show 0 < w.length
    cases w with
    | nil =>
      rw [mach_out0 hi, List.append_nil] at ne
      exact absurd rfl ne
    | cons a w => simp
  hl := Nat.le_refl _
  no := by
    show P.out ((places (c.M P) c.S i w).getD 0 []) ≠ (c.M P).at_ ((c.M P).run i w)
    rw [places_at (Nat.zero_le _)]
    exact fun e => ne e.symm
  ye := by
    show P.out ((places (c.M P) c.S i w).getD w.length []) = (c.M P).at_ ((c.M P).run i w)
    rw [places_at (Nat.le_refl _), List.take_length, List.drop_length, List.append_nil, mach_at (run_lt h.cl hi hw)]
  X := ⟨digs c.c3, by
    show w.length - 0 ≤ 2 ^ digs c.c3
    have := lt_digs c.c3
    omega, by
    show X.length + digs c.c3 ≤ (c.E.length - 1) * (digs c.c3 + 1) + digs c.c3 + 1 + _
    omega⟩
theorem SearchPh.Xb {s : Srch} {i : Nat} {w : Word} (h : SearchPh P c X s i w) : X.length ≤ c.E.length * (digs c.c3 + 1) := by
  obtain ⟨r, h1, h2⟩ := h.X
  rw [mulL h.cl.b.Ep] at h2
  split at h2
  · rename_i z
    have : r ≠ 0 := by
      rintro rfl
      have := z.1
      rw [Nat.pow_zero] at h1
      omega
    omega
  · omega
theorem SearchPh.pre (x : Ctx P sec) {s : Srch} {i : Nat} {w : Word} (h : SearchPh P c X s i w) : Pre P c := by
  obtain ⟨h1, h2⟩ := h.cl.nn x
  refine h.cl.b.pre x h.cl.le (nn31 x h2) (Xsmall (nn31 x h2) (digs300 h.cl.b.c3) h.Xb) (fun y hy => by rw [h.cl.q] at hy; exact nomatch hy) (fun w z => ?_) (fun t z => ?_)
  · rw [h.se] at z; cases z
  · rw [h.se] at z
    obtain rfl := Option.some.inj z
    have hl := h.hl
    have l3 := h.len
    have c3 := h.cl.b.c3
    refine ⟨h.lh, by rw [h.wd]; exact hl, by rw [h.pl, h.wd, places_length], by rw [h.wd]; omega, by rw [h.wd]; exact h.ok, fun p hp => ?_, fun e => ?_⟩
    · rw [h.pl] at hp
      obtain ⟨j, hj, rfl⟩ := List.getElem_of_mem hp
      have hj' : j ≤ w.length := by rw [places_length] at hj; omega
      have e : (places (c.M P) c.S i w)[j] = (places (c.M P) c.S i w).getD j [] := by rw [List.getD_eq_getElem?_getD, List.getElem?_eq_getElem hj] <;> rfl
      rw [e, places_at hj']
      have hm : (c.M P).run i (w.take j) < c.S.length := run_lt h.cl.cl h.i fun a ha => h.ok a (List.mem_of_mem_take ha)
      have hs := h.cl.b.Sok (getD_mem (d := []) hm).1
      have le := h.cl.le
      have m30 := x.m30
      refine ⟨okw_app.mpr ⟨hs.1, fun a ha => h.ok a (List.mem_of_mem_drop ha)⟩, ?_⟩
      rw [List.length_append, List.length_drop]
      omega
    · have lh := h.lh
      have hlow : s.low < w.length := by omega
      have eh : s.high = s.low + 1 := by omega
      have no := h.no
      have ye := h.ye
      rw [eh] at ye
      rw [h.pl] at no ye
      rw [h.wd]
      exact (search_end h.cl.cl h.i h.ok hlow (by rw [ye]; exact no) h.cl.b.Sdis).1
theorem okw_drop {k i : Nat} {w : Word} (h : okw k w) : okw k (w.drop i) := fun a ha => h a (List.mem_of_mem_drop ha)
/-- every step: what the code leans on holds; it goes on with a lesser measure, or gives out a step -/
theorem W_step (x : Ctx P sec) {m : Nat} (h : W P sec.least.n m c) : Pre P c ∧ (∀ c', stepP P c = (c', none) → ∃ m', m' < m ∧ W P sec.least.n m' c') ∧ ∀ c' s, stepP P c = (c', some s) → R P sec.least.n c' s := by
  cases h with
  | @fill c X pend h =>
    refine ⟨h.pre x, ?_⟩
    unfold stepP
    rw [h.se, h.sh]
    simp only
    unfold fillP
    have hb := h.bd x
    cases hp : popQ c.ws c.q with
    | some y =>
      obtain ⟨y, r⟩ := y
      obtain ⟨n1, n2, n3⟩ := popQ_some hp
      simp only
      refine ⟨(fun c' e => by cases e), fun c' s e => ?_⟩
      rw [Prod.mk.injEq] at e
      obtain ⟨rfl, e⟩ := e
      obtain rfl := Option.some.inj e
      obtain ⟨g1, g2, g3⟩ := h.b.cell (h.q y n2)
      have := h.le
      have := x.m30
      have := h.b.c3
      refine ⟨⟨hb.1, hb.2, hb.3, hb.4⟩, n1, g2, by omega, ⟨_, .fill (X := X) (pend := pend) ?_⟩⟩
      exact ⟨(h.b.more n1 g2 X (fun _ z => z) (.inl g1)).swap rfl rfl rfl (Nat.le_refl _) h.b.c3, h.se, h.sh, fun z hz => h.q z (n3 z hz), h.le, h.ec, h.pe, h.c2, h.X⟩
    | none =>
      simp only
      by_cases hw : wanted P.k c.S c.E c.ws ≠ []
      · rw [if_pos hw]
        refine ⟨fun c' e => ?_, (fun c' s e => by cases e)⟩
        rw [Prod.mk.injEq] at e
        obtain ⟨rfl, _⟩ := e
        refine ⟨_, ?_, .fill (X := X) (pend := pend) ⟨h.b.swap rfl rfl rfl (Nat.le_refl _) h.b.c3, h.se, h.sh, fun z hz => (wanted_mem hz).1, h.le, h.ec, h.pe, h.c2, h.X⟩⟩
        show (sec.least.n - c.S.length) * 2000 + (if pend then 2 else 1000) + (if (popQ c.ws (wanted P.k c.S c.E c.ws)).isSome then 0 else 1) < _
        rw [popQ_wanted hw fun y hy => (wanted_mem hy).2]
        simp
      · rw [if_neg hw]
        have hw0 : wanted P.k c.S c.E c.ws = [] := Classical.byContradiction hw
        cases he : ext P.out P.k c.S c.E with
        | some r =>
          simp only
          obtain ⟨r1, r2⟩ := ext_some he
          have b2 := h.b.grow r1 r2 []
          have sn := b2.SN x
          have el : (c.S ++ [r]).length = c.S.length + 1 := by simp
          have sn2 : c.S.length + 1 ≤ sec.least.n := by rw [← el]; exact sn
          by_cases hf : P.most < (c.S ++ [r]).length
          · rw [if_pos hf]
            refine ⟨(fun c' e => by cases e), fun c' s e => ?_⟩
            rw [Prod.mk.injEq] at e
            obtain ⟨rfl, e⟩ := e
            obtain rfl := Option.some.inj e
            refine ⟨⟨hb.1, hb.2, hb.3, hb.4⟩, by omega⟩
          · rw [if_neg hf]
            refine ⟨fun c' e => ?_, (fun c' s e => by cases e)⟩
            rw [Prod.mk.injEq] at e
            obtain ⟨rfl, _⟩ := e
            have ec := h.ec
            have pb : pend.toNat ≤ 1 := by cases pend <;> decide
            refine ⟨_, ?_, .fill (X := X) (pend := false) ⟨b2, h.se, h.sh, (fun z hz => nomatch hz), ?_, ?_, (fun z => nomatch z), h.c2, h.X⟩⟩
            · show (sec.least.n - (c.S ++ [r]).length) * 2000 + 1000 + (if (popQ c.ws []).isSome then 0 else 1) < (sec.least.n - c.S.length) * 2000 + (if pend then 2 else 1000) + 1
              rw [el]
              have e1 : sec.least.n - c.S.length = (sec.least.n - (c.S.length + 1)) + 1 := by omega
              rw [e1, Nat.add_mul]
              have : (if pend then 2 else 1000) ≥ 2 := by cases pend <;> simp
              have : (if (popQ c.ws []).isSome then 0 else 1) = 1 := rfl
              omega
            · show (c.S ++ [r]).length ≤ P.most
              omega
            · show c.E.length ≤ (c.S ++ [r]).length + 0
              omega
        | none =>
          simp only
          have cl := closed_of he
          have pf : pend = false := by
            cases pend with
            | false => rfl
            | true =>
              obtain ⟨r, hr, nr⟩ := h.pe rfl
              obtain ⟨⟨v, hv, a, ha, rfl⟩, _⟩ := mem_further.mp hr
              exact absurd (cl v hv a ha) nr
          subst pf
          have ec : c.E.length ≤ c.S.length := h.ec
          have C : Cl P { c with q := [], mach := some (c.M P) } X := ⟨h.b.swap rfl rfl rfl (Nat.le_refl _) h.b.c3, rfl, cl, rfl, h.le, ec⟩
          have c2 := h.c2
          cases hm : mistP P.out (machP P.out P.k P.o c.S c.E) c.S c.E with
          | some y =>
            obtain ⟨i, w⟩ := y
            simp only
            refine ⟨fun c' e => ?_, (fun c' s e => by cases e)⟩
            rw [Prod.mk.injEq] at e
            obtain ⟨rfl, _⟩ := e
            obtain ⟨m1, m2, m3⟩ := mist_some hm
            have ho := h.b.Eo w m2
            have S := begin_ph x C m1 ho.1 ho.2 m3 (by show c.c2 ≤ c.E.length; omega) (Nat.le_succ_of_le h.X)
            have e5 : ({ c with q := [], mach := some (c.M P), shown := none, srch := some (begin_ (c.M P) c.S i w) } : AS) = { c with q := [], mach := some (c.M P), srch := some (begin_ (c.M P) c.S i w) } := by rw [← h.sh]
            refine ⟨_, ?_, .search (X := X) (s := begin_ (c.M P) c.S i w) (i := i) (w := w) (by rw [← e5]; exact S)⟩
            show (sec.least.n - c.S.length) * 2000 + 10 + (w.length - 0) < (sec.least.n - c.S.length) * 2000 + 1000 + 1
            have := h.b.c3
            omega
          | none =>
            simp only
            refine ⟨(fun c' e => by cases e), fun c' s e => ?_⟩
            rw [Prod.mk.injEq] at e
            obtain ⟨rfl, e⟩ := e
            obtain rfl := Option.some.inj e
            obtain ⟨g1, g2⟩ := h.nn x
            have cw := C.wf x
            refine ⟨⟨hb.1, by show c.c2 + 1 ≤ _; omega, hb.3, hb.4⟩, cw, rfl, h.le, fun w hw hl ne => ⟨_, .judge (X := X) (w := w) ?_⟩⟩
            have mx : max c.c3 w.length ≤ 300 := by have := h.b.c3; omega
            refine ⟨⟨h.b.swap rfl rfl rfl (Nat.le_max_left _ _) mx, rfl, cl, rfl, h.le, ec⟩, by show c.c2 + 1 ≤ c.E.length; omega, h.se, rfl, fun z => ne z.symm, hw, Nat.le_max_right _ _, ?_⟩
            have d := digs_mono (Nat.le_max_left c.c3 w.length)
            have : (c.E.length - 1) * (digs c.c3 + 1) ≤ (c.E.length - 1) * (digs (max c.c3 w.length) + 1) := Nat.mul_le_mul_left _ (by omega)
            have hX := h.X
            show X.length ≤ (c.E.length - 1) * (digs (max c.c3 w.length) + 1) + _
            omega
  | @judge c X w h =>
    obtain ⟨h1, h2⟩ := h.cl.nn x
    have hX : X.length ≤ (c.E.length - 1) * (digs c.c3 + 1) + 1 := by
      have := h.X
      split at this <;> omega
    have hX2 : X.length ≤ c.E.length * (digs c.c3 + 1) := by
      have := mulL (L := digs c.c3) h.cl.b.Ep
      omega
    have hb : Bd P sec.least.n c := h.cl.b.bd h1 h2 h.c2 hX2
    refine ⟨?_, ?_⟩
    · refine h.cl.b.pre x h.cl.le (nn31 x h2) (Xsmall (nn31 x h2) (digs300 h.cl.b.c3) hX2) (fun y hy => by rw [h.cl.q] at hy; exact nomatch hy) (fun v _ z => ?_) (fun t z => ?_)
      · rw [h.sh] at z
        obtain rfl := Option.some.inj z
        exact ⟨h.cl.mach, h.cl.cl, h.ne, h.ok, Nat.le_trans h.len h.cl.b.c3⟩
      · rw [h.se] at z; cases z
    · unfold stepP
      rw [h.se, h.sh, h.cl.mach]
      simp only [Option.getD_some]
      unfold judgeP
      by_cases c1 : w ∈ c.ws
      · rw [if_pos c1]
        refine ⟨fun c' e => ?_, (fun c' s e => by cases e)⟩
        rw [Prod.mk.injEq] at e
        obtain ⟨rfl, _⟩ := e
        have ne : (c.M P).out 0 w ≠ P.out (c.S.getD 0 [] ++ w) := by rw [h.cl.b.S00]; exact h.ne
        refine ⟨_, ?_, .search (X := X) (begin_ph x h.cl h.cl.b.Sp h.ok h.len ne h.c2 hX)⟩
        show (sec.least.n - c.S.length) * 2000 + 10 + (w.length - 0) < (sec.least.n - c.S.length) * 2000 + 900
        have := h.len
        have := h.cl.b.c3
        omega
      · rw [if_neg c1]
        refine ⟨(fun c' e => by cases e), fun c' s e => ?_⟩
        rw [Prod.mk.injEq] at e
        obtain ⟨rfl, e⟩ := e
        obtain rfl := Option.some.inj e
        have hX0 := h.X
        rw [if_neg c1] at hX0
        refine ⟨hb, c1, h.ok, by have := h.len; have := h.cl.b.c3; omega, ⟨_, .judge (X := w :: X) (w := w) ?_⟩⟩
        refine ⟨⟨h.cl.b.more c1 h.ok (w :: X) (fun v hv => List.mem_cons_of_mem _ hv) (.inr List.mem_cons_self), h.cl.mach, h.cl.cl, h.cl.q, h.cl.le, h.cl.ec⟩, h.c2, h.se, h.sh, h.ne, h.ok, h.len, ?_⟩
        show (w :: X).length ≤ (c.E.length - 1) * (digs c.c3 + 1) + (if w ∈ c.ws ++ [w] then 1 else 0)
        rw [if_pos (by simp), List.length_cons]
        omega
  | @search c X s i w h =>
    obtain ⟨h1, h2⟩ := h.cl.nn x
    have hb : Bd P sec.least.n c := h.cl.b.bd h1 h2 h.c2 h.Xb
    refine ⟨h.pre x, ?_⟩
    unfold stepP
    rw [h.se]
    simp only
    unfold lookP
    have lh := h.lh
    have hl := h.hl
    obtain ⟨r, hr, hX⟩ := h.X
    by_cases c1 : s.high - s.low = 1
    · rw [if_pos c1]
      refine ⟨fun c' e => ?_, (fun c' s e => by cases e)⟩
      rw [Prod.mk.injEq] at e
      obtain ⟨rfl, _⟩ := e
      have hlow : s.low < w.length := by omega
      have eh : s.high = s.low + 1 := by omega
      have no := h.no
      have ye := h.ye
      rw [eh] at ye
      rw [h.pl] at no ye
      obtain ⟨z1, z2⟩ := search_end h.cl.cl h.i h.ok hlow (by rw [ye]; exact no) h.cl.b.Sdis
      have hlen := h.len
      rw [h.wd]
      rw [if_neg (by omega), Nat.add_zero, mulL h.cl.b.Ep] at hX
      have ec := h.cl.ec
      have c2 := h.c2
      refine ⟨_, ?_, .fill (X := X) (pend := true) ⟨h.cl.b.wide z1 (okw_drop h.ok) (by rw [List.length_drop]; omega), rfl, h.sh, fun y hy => ?_, h.cl.le, ?_, fun _ => z2, ?_, ?_⟩⟩
      · show (sec.least.n - c.S.length) * 2000 + 2 + (if (popQ c.ws c.q).isSome then 0 else 1) < (sec.least.n - c.S.length) * 2000 + 10 + (s.high - s.low)
        split <;> omega
      · have hy : y ∈ c.q := hy
        rw [h.cl.q] at hy
        exact nomatch hy
      · show (c.E ++ [w.drop (s.low + 1)]).length ≤ c.S.length + 1
        simp
        exact ec
      · show c.c2 + 1 ≤ (c.E ++ [w.drop (s.low + 1)]).length
        simp
        exact c2
      · show X.length ≤ ((c.E ++ [w.drop (s.low + 1)]).length - 1) * (digs c.c3 + 1)
        simp only [List.length_append, List.length_cons, List.length_nil, Nat.add_sub_cancel]
        omega
    · rw [if_neg c1]
      have b1 : s.low < (s.low + s.high) / 2 := by omega
      have b2 : (s.low + s.high) / 2 < s.high := by omega
      by_cases c2 : s.places.getD ((s.low + s.high) / 2) [] ∈ c.ws
      · rw [if_pos c2]
        refine ⟨fun c' e => ?_, (fun c' s e => by cases e)⟩
        rw [Prod.mk.injEq] at e
        obtain ⟨rfl, _⟩ := e
        rw [if_pos ⟨by omega, c2⟩] at hX
        obtain ⟨q, rfl⟩ : ∃ q, r = q + 1 := by
          refine ⟨r - 1, ?_⟩
          have : r ≠ 0 := by
            rintro rfl
            rw [Nat.pow_zero] at hr
            omega
          omega
        rw [Nat.pow_succ] at hr
        have cl' : ∀ t, Cl P { c with srch := t } X := fun t => ⟨h.cl.b.swap rfl rfl rfl (Nat.le_refl _) h.cl.b.c3, h.cl.mach, h.cl.cl, h.cl.q, h.cl.le, h.cl.ec⟩
        by_cases c3 : P.out (s.places.getD ((s.low + s.high) / 2) []) = s.o
        · rw [if_pos c3]
          refine ⟨_, ?_, .search (X := X) (s := { s with high := (s.low + s.high) / 2 }) (i := i) (w := w) ⟨cl' _, h.c2, rfl, h.sh, h.pl, h.wd, h.i, h.ok, h.len, b1, by show (s.low + s.high) / 2 ≤ w.length; omega, h.no, c3, ⟨q, ?_, ?_⟩⟩⟩
          · show (sec.least.n - c.S.length) * 2000 + 10 + ((s.low + s.high) / 2 - s.low) < (sec.least.n - c.S.length) * 2000 + 10 + (s.high - s.low)
            omega
          · show (s.low + s.high) / 2 - s.low ≤ 2 ^ q
            omega
          · show X.length + q ≤ (c.E.length - 1) * (digs c.c3 + 1) + digs c.c3 + 1 + _
            omega
        · rw [if_neg c3]
          refine ⟨_, ?_, .search (X := X) (s := { s with low := (s.low + s.high) / 2 }) (i := i) (w := w) ⟨cl' _, h.c2, rfl, h.sh, h.pl, h.wd, h.i, h.ok, h.len, b2, hl, c3, h.ye, ⟨q, ?_, ?_⟩⟩⟩
          · show (sec.least.n - c.S.length) * 2000 + 10 + (s.high - (s.low + s.high) / 2) < (sec.least.n - c.S.length) * 2000 + 10 + (s.high - s.low)
            omega
          · show s.high - (s.low + s.high) / 2 ≤ 2 ^ q
            omega
          · show X.length + q ≤ (c.E.length - 1) * (digs c.c3 + 1) + digs c.c3 + 1 + _
            omega
      · rw [if_neg c2]
        refine ⟨(fun c' e => by cases e), fun c' t e => ?_⟩
        rw [Prod.mk.injEq] at e
        obtain ⟨rfl, e⟩ := e
        obtain rfl := Option.some.inj e
        obtain ⟨_, _, p3, p4, _, p6, _⟩ := (h.pre x).look s h.se
        have hm : s.places.getD ((s.low + s.high) / 2) [] ∈ s.places := (getD_mem (by rw [p3, h.wd]; omega)).1
        have po := p6 _ hm
        rw [if_neg (fun z => c2 z.2), Nat.add_zero] at hX
        refine ⟨hb, c2, po.1, po.2, ⟨_, .search (X := s.places.getD ((s.low + s.high) / 2) [] :: X) (s := s) (i := i) (w := w) ⟨⟨h.cl.b.more c2 po.1 _ (fun v hv => List.mem_cons_of_mem _ hv) (.inr List.mem_cons_self), h.cl.mach, h.cl.cl, h.cl.q, h.cl.le, h.cl.ec⟩, h.c2, h.se, h.sh, h.pl, h.wd, h.i, h.ok, h.len, lh, hl, h.no, h.ye, ⟨r, hr, ?_⟩⟩⟩⟩
        show (s.places.getD ((s.low + s.high) / 2) [] :: X).length + r ≤ (c.E.length - 1) * (digs c.c3 + 1) + digs c.c3 + 1 + (if 2 ≤ s.high - s.low ∧ s.places.getD ((s.low + s.high) / 2) [] ∈ c.ws ++ [s.places.getD ((s.low + s.high) / 2) []] then 1 else 0)
        rw [if_pos ⟨by omega, by simp⟩, List.length_cons]
        omega
def init : AS := ⟨[], [[]], [[]], [], none, none, none, 0, 0⟩
theorem W_init (x : Ctx P sec) : ∃ m, W P sec.least.n m init := by
  refine ⟨_, .fill (X := []) (pend := false) ⟨⟨List.nodup_nil, (fun _ z => nomatch z), (fun _ z => nomatch z), ⟨[], rfl⟩, fun i w h => ?_, fun w h => ?_, by simp [init], by simp [init], by simp [init], fun y hy => ?_, by decide⟩, rfl, rfl, (fun _ z => nomatch z), x.m1, by simp [init], (fun z => nomatch z), by simp [init], by simp⟩⟩
  · cases i with
    | zero =>
      have : w = [] := by simpa [init] using h.symm
      subst this
      exact ⟨Nat.le_refl _, okw_nil _⟩
    | succ i => simp [init] at h
  · exact .inl (by simpa [init] using h)
  · have : y = [] := by simpa [init] using hy
    subst this
    exact ⟨okw_nil _, Nat.zero_le _⟩
/-- a machine that was accepted: it is the least of what is hidden; and that has no more states than allowed -/
theorem accepted (x : Ctx P sec) {p : Mach} (hw : (c.M P).WF) (hp : p = (c.M P).least) (hl : c.S.length ≤ P.most) (e : Mach.Eqv sec 0 p 0) : p = sec.least ∧ sec.least.n ≤ P.most := by
  have ek : sec.k = (c.M P).k := x.k.symm
  have e2 : Mach.Eqv (c.M P) 0 sec 0 := by
    have e3 : Mach.Eqv p 0 (c.M P) 0 := by rw [hp]; exact Mach.least_alike hw
    have kp : sec.k = p.k := by rw [hp]; exact ek
    exact (e.trans kp e3).symm ek
  have u := Mach.least_unique hw x.wf ek.symm x.o e2
  refine ⟨hp.trans u, ?_⟩
  rw [← u, Mach.least_n hw]
  have := Mach.met_le hw
  have em : (c.M P).n = c.S.length := mach_n
  omega
end
end Mai
/-! ## W0 -/
namespace MW
open PySem PySem.Spec PyProof.Rows L2
/-! ### rules that the layer lacks -/
section
variable {X : Cx}
/-- xs[i] read, for xs[i] op= e -/
theorem pget_list : PGet X (rIxL X.K) := by
  intro pins s σ H x y v u Q I rx ry h
  obtain ⟨p, xs, i, z, rfl, rfl, hq, he, q⟩ := h
  cases rx
  obtain ⟨t, rfl⟩ := ry
  obtain ⟨its, r, pl, hz⟩ := I.list hq
  obtain ⟨j, h1, h2, h3, h4, h5⟩ := atI_get he
  obtain ⟨c, ec, rc⟩ := r.get h2
  have hl := r.length
  have hn := line63
  by_cases h0 : 0 ≤ i
  · have hj : i.toNat = j := by
      rw [seqIndex_of h0 h5] at h1
      exact Option.some.inj h1
    exact wpAny_getItem_list (x := c) pl.isList h0 (by omega) (by rw [hj]; simpa using ec) ⟨z, H, I, rc, q⟩
  · have hj : (i + (its.toArray.size : Int)).toNat = j := by
      rw [seqIndex_neg (by omega) h4] at h1
      rw [List.size_toArray, ← hl]
      exact Option.some.inj h1
    exact wpAny_getItem_list_neg (x := c) pl.isList (by omega) (by rw [List.size_toArray] <;> omega) (by omega) (by rw [hj]; simpa using ec) ⟨z, H, I, rc, q⟩
/-- an empty dict may be one for tuple keys -/
theorem asT {pins : List (Addr × Obj)} {σ : L2.St} {H : Hp} {s : Shared} {p : Addr} (I : L2.Inv X pins σ H s) (h : H p = some (.dK [])) : L2.Inv X pins σ (upd H p (.dT [])) s := by
  obtain ⟨z, hd, vs, rel, o, es, ep, e1, e2, e3, e4, e5, e6⟩ := dk_of I.hok h
  cases rel
  refine I.write (x := p) (e := p) (t' := s.toks) (by rw [h]; trivial) (.inl rfl) (fun _ _ _ e => e) ⟨o, e1⟩ ⟨Nat.zero_le _, hd, [], .nil, o, es, ep, e1, e2, e3, ?_, List.nodup_nil⟩
  cases e5' : es.toList with
  | nil => rfl
  | cons a b =>
    rw [e5'] at e5
    cases e5
/-- dict(d), d empty, to be filled with tuple keys -/
theorem call_dict0 : CallR X (.type "dict") (fun xs H Q => ∃ a, xs = [.ref a] ∧ H a = some (.dK []) ∧ ∀ p, H p = none → Q (.ref p) (upd H p (.dT []))) := by
  intro pins s σ H xs us Q I r h
  obtain ⟨a, rfl, ha, q⟩ := h
  obtain ⟨u, rfl, ru⟩ := vals1 r
  cases ru
  refine d_copyOf I (.inl ha) fun p s' hp I' => ?_
  have I2 := asT I' upd_same
  rw [upd_upd] at I2
  exact ⟨.ref p, _, I2, rfl, q p hp⟩
/-- an empty dict made for tuple keys stands new at the heap's end -/
theorem newT {pins : List (Addr × Obj)} {σ : L2.St} {H : Hp} {s : Shared} (I : L2.Inv X pins σ H s) : L2.Inv X pins σ (upd H s.heap.objs.size (.dT [])) { s with heap := s.heap.push { cls := .type "dict", data := .dict #[] } } :=
  I.laid (t' := s.toks) (fun _ _ q => Heap.get?_push_of_some _ q) (Nat.le_refl _) (dt_empty s.heap I.big)
/-- the pairs of a dict with tuple keys, as the layer wants them -/
theorem dT_write {pins : List (Addr × Obj)} {σ : L2.St} {H : Hp} {s : Shared} {d : Addr} {h' : Heap} {tk : Nat} {kvs : List (List Key × V)} {u : HO} {xs : List (List Key × Addr × Value)} (I : L2.Inv X pins σ H s) (hu : H d = some u) (mu : Mut (some u)) (hz : kvs.length ≤ sizeLine) (hd : (d == sysModules) = false)
    (rel : KT H kvs xs) (hm : h'.DictOfH (tupleKind (mixKind X.prog X.w)) d xs) (hs : Heap.SameBut d s.heap h') : L2.Inv X pins σ (upd H d (.dT kvs)) { s with heap := h', toks := tk } := by
  obtain ⟨o, es, ep, ho, h2, h3, h4, _, h5⟩ := hm
  refine d_write I (by rw [hu]; exact mu) hs ⟨o, ho⟩ ⟨hz, hd, xs, rel.keeps fun c ys ec => ?_, o, es, ep, ho, h2, h3, h4, h5⟩
  have nc : c ≠ d := fun z => by
    rw [z, hu] at ec
    cases ec
    exact mu
  rw [upd_ne nc]
  exact ec
/-- {k: v}, k a tuple -/
def tDisp1 (tk tv : TE) : TE := fun σ H Q => ∀ p, H p = none → tk σ (upd H p (.dT [])) fun x H1 => tv σ H1 fun y H2 => ∃ (b : Addr) (ks : List Key), x = .ref b ∧ H2 b = some (.tup (ks.map kV)) ∧ H2 p = some (.dT []) ∧ Q (.ref p) (upd H2 p (.dT [(ks, y)]))
theorem pe_disp1 {k v : Expr} {tk tv : TE} {pos : Pos} (hu : X.A.units + 1 < cLine) (hk : PE X k tk) (hv : PE X v tv) : PE X (.Dict [some k] [v] pos) (tDisp1 tk tv) := by
  refine ⟨fun pins s σ H Q I q => ?_⟩
  have I1 := newT I
  have pps : PPs X pos [some k] [v] [(tk, tv)] := pps_cons hk hv pps_nil
  have hz := zip_pairTrees [some k] [v] X.env pos rfl rfl
  rw [arm_eval_Dict, hz, dictDisplay_pairs (pairTrees [some k] [v] X.env pos) (by intro z; cases z) (by show 1 < 17; decide)]
  have hu0 : (tupleKind (mixKind X.prog X.w)).room X.A := show X.A.units < cLine from by omega
  refine wpAny_bind (wpAny_standAt (wpAny_bind (wpAny_subDictH (knd := tupleKind (mixKind X.prog X.w)) (Q := fun d s' => wpAny (model X.prog X.w) X.A (pure (Value.ref d)) (EP X pins σ Q) X.xe s') hu0 (by show 1 ≤ 15; decide) ?_)))
  refine thn (pps.run pins _ σ _ (fun ps H2 => ∃ (b : Addr) (ks : List Key) (y : V), ps = [(.ref b, y)] ∧ H2 b = some (.tup (ks.map kV)) ∧ H2 s.heap.objs.size = some (.dT []) ∧ Q (.ref s.heap.objs.size) (upd H2 s.heap.objs.size (.dT [(ks, y)]))) I1 ?_) fun vs s2 hvs => ?_
  · have z := q s.heap.objs.size (I.hok.fresh (Nat.le_refl _))
    show tk σ _ _
    refine cast ?_ z
    congr 1
    funext x H1
    show (tv σ H1 fun y H2 => _) = (tv σ H1 fun y H2 => _)
    congr 1
    funext y H2
    apply propext
    constructor
    · rintro ⟨b, ks, rfl, h1, h2, h3⟩
      exact ⟨b, ks, y, rfl, h1, h2, h3⟩
    · rintro ⟨b, ks, y', e, h1, h2, h3⟩
      simp only [List.cons.injEq, Prod.mk.injEq, and_true] at e
      obtain ⟨rfl, rfl⟩ := e
      exact ⟨b, ks, rfl, h1, h2, h3⟩
  · obtain ⟨ps, H2, I2, rel, b, ks, y, rfl, hb, hd2, q2⟩ := hvs
    cases rel with
    | @cons p0 v0 ps0 vs0 r0 rn =>
      cases rn
      obtain ⟨u1, u2⟩ := v0
      obtain ⟨r1, r2⟩ := r0
      obtain rfl : u1 = Value.ref b := r1
      obtain ⟨z, hdm, xs, relx, dd⟩ := dt_of I2.hok hd2
      cases relx
      refine ⟨[(ks, b, u2)], ⟨rfl, rfl, key_of I2.hok hb, trivial⟩, dd, fun h' tk' hm hs => wpAny_pure ⟨.ref s.heap.objs.size, _, dT_write (xs := storedH [] ks b u2) (tk := tk') I2 hd2 trivial (by show 1 ≤ sizeLine; decide) hdm ?_ hm hs, rfl, q2⟩⟩
      exact .cons ⟨rfl, hb, r2⟩ .nil
/-- d.setdefault(k, x), k a tuple -/
def tSetdT (td ty tx : TE) : TE := fun σ H Q => td σ H fun x H1 => ∃ a, x = .ref a ∧ IsD H1 a ∧ ty σ H1 fun y H2 => tx σ H2 fun z H3 => ∃ (kvs : List (List Key × V)) (k : List Key) (b : Addr), H3 a = some (.dT kvs) ∧ y = .ref b ∧ H3 b = some (.tup (k.map kV)) ∧ kvs.length < sizeLine ∧
  (∀ v, valV kvs k = some v → Q v H3) ∧ (valV kvs k = none → Q z (upd H3 a (.dT (putK kvs k z))))
theorem pe_setdT {o e f : Expr} {td ty tx : TE} {apos cpos : Pos} (hu : X.A.units + 1 < cLine) (ho : PE X o td) (he : PE X e ty) (hf : PE X f tx) (m : M2 X o "setdefault" apos e f cpos) : PE X (.Call (.Attribute o "setdefault" apos) [e, f] [] cpos) (tSetdT td ty tx) := by
  refine ⟨fun pins s σ H Q I h => ?_⟩
  refine wpAny_Call_method m.base m.few m.line PySem.F.plainAttrs_dict PySem.F.slot_dict_setdefault PySem.F.type_dict_setdefault (thn (ho.run pins s σ H _ I h) fun uo s1 ⟨x, H1, I1, rx, a, ex, isd, q1⟩ => ?_)
  subst ex
  obtain rfl : uo = Value.ref a := rx
  obtain ⟨t1, t2, _⟩ := isD_at I1 isd
  refine ⟨t1, t2, ?_⟩
  rw [m.trees]
  refine Calls.callWith_builtin rfl (Calls.evalArgs_plain (Calls.spliced_cons (thn (he.run pins s1 σ H1 _ I1 q1) fun ue s2 ⟨y, H2, I2, ry, q2⟩ => ?_)))
  refine Calls.spliced_cons (thn (hf.run pins s2 σ H2 _ I2 q2) fun uf s3 ⟨z, H3, I3, rz, kvs, k, b, ea, ey, eb, hl, q3, q4⟩ => Calls.spliced_nil ?_)
  subst ey
  obtain rfl : ue = Value.ref b := ry
  obtain ⟨hz, hdm, xs, rel, dd⟩ := dt_of I3.hok ea
  have hxl := Paired.length rel
  refine call_setdefault_heap (hsz := by omega) (tupleKind_room_in1 hu) (key_of I3.hok eb) hdm dd (fun p hp => ?_) fun hn h' hm hs => ?_
  · have r := rel.val k
    rw [hp] at r
    cases q0 : valV kvs k with
    | none =>
      rw [q0] at r
      exact r.elim
    | some v0 =>
      rw [q0] at r
      exact ⟨v0, H3, I3.tok _, r, q3 v0 q0⟩
  · have r := rel.val k
    rw [hn] at r
    cases q0 : valV kvs k with
    | some v0 =>
      rw [q0] at r
      exact r.elim
    | none =>
      have hl2 := length_putK kvs k z
      exact ⟨z, _, dT_write I3 ea trivial (by omega) hdm (rel.put k eb rz) hm hs, rz, q4 q0⟩
/-- t.index(n), a tuple of ints: the first place -/
theorem eqInt_at {A : Around} {s : Shared} {n : Int} {t : Tok} : ∀ {ns : List Int} {us : List Value}, Vals (ns.map V.int) us → ∀ u ∈ us, SeqAt.EqAt A s u (.int n t) (eqU (.int n) u) := fun {ns us} r u hu =>
  mem_eqAt (x := .int n) ⟨t, rfl⟩ rfl r (by rw [List.all_map]; exact List.all_eq_true.mpr fun _ _ => rfl) u hu
theorem mt_tupIdx : MtR X "tuple.index" (fun x xs H Q => ∃ (p : Addr) (ns : List Int) (n : Int) (j : Nat), x = .ref p ∧ xs = [.int n] ∧ SqT X.K H p (ns.map V.int) ∧ ns[j]? = some n ∧ (∀ m, m < j → ns[m]? ≠ some n) ∧ Q (.int (j : Nat)) H) := by
  intro pins s σ H x xs v us Q I rx rs h
  obtain ⟨p, ns, n, j, rfl, rfl, hq, hy, hno, q⟩ := h
  cases rx
  obtain ⟨u, rfl, t, rfl⟩ := vals1 rs
  obtain ⟨its, r, ⟨⟨cls, dd, dt, sl⟩, ho, hc, m0, hd⟩, hz⟩ := I.tuple hq
  simp only at hc hd
  subst hc
  subst hd
  have hl : its.toArray.size = ns.length := by rw [List.size_toArray, ← r.length, List.length_map]
  have hj : j < its.toArray.size := by rw [hl]; exact (List.getElem?_eq_some_iff.mp hy).1
  have item : ∀ (m : Nat) (hm : m < its.toArray.size), ∃ y t', ns[m]? = some y ∧ its.toArray[m] = Value.int y t' := fun m hm => by
    have hm' : m < ns.length := by rw [← hl]; exact hm
    obtain ⟨c, hc, t', hc'⟩ := r.get (i := m) (x := .int ns[m]) (by simp [hm'])
    refine ⟨ns[m], t', List.getElem?_eq_getElem hm', ?_⟩
    have e := (List.getElem?_eq_some_iff.mp hc).2
    rw [← hc', ← e]
    simp
  refine call_meets PySem.F.slot_tuple_index ⟨_, ho, rfl⟩ PySem.F.entry_tuple_index (PySem.F.args_tuple_index_2 _ _)
    (TI.tuple_indexAt p its.toArray m0 dd sl (.int n t) (eqU (.int n)) j hj ?_ ?_) ⟨ho, fun c hc => eqInt_at r c (by simpa using hc), ⟨.int (j : Nat), H, I.tok _, ⟨_, rfl⟩, q⟩⟩
  · obtain ⟨y, t', h1, h2⟩ := item j hj
    rw [hy] at h1
    cases h1
    rw [h2]
    show (n == n) = true
    exact beq_self_eq_true n
  · intro m hm hmj
    obtain ⟨y, t', h1, h2⟩ := item m hm
    rw [h2]
    show (y == n) = false
    refine beq_eq_false_iff_ne.mpr fun e => hno m hmj ?_
    rw [h1, e]
end
end MW
/-! ## W1 -/
namespace MW
open PySem PySem.Spec PyProof.Rows L2
/-! ### list(reversed(xs)) -/
section
variable {prog : Program} {w : World} {A : Around} {E : Value → Shared → Prop} {s : Shared} {it l S : Addr} {items : Array Value}
theorem rev_extend {R : Result → Shared → Prop} (res : Value) (c0 : Nat) (hh : A.handled = none) (hi : s.heap.IsRevIter it l ((items.size : Int) - 1)) (hl : s.heap.IsList l items) (hne : l ≠ it) (hn : items.size ≤ sizeLine)
    (hS : s.heap.get? S = some { cls := .type "list", data := .seq #[] c0 }) (hSi : S ≠ it) (hSl : S ≠ l)
    (hR : ∀ (h' : Heap) (tk : Nat) (acc : Array Value) (c' : Nat), (∀ b o, b ≠ S → b ≠ it → s.heap.get? b = some o → h'.get? b = some o) → h'.get? S = some { cls := .type "list", dict := none, data := .seq acc c', slots := #[] } →
      ItemsOf (fun i v => items[items.size - 1 - i]? = some v) acc items.size → R (.ok (.ret res)) { s with heap := h', toks := tk }) :
    wpAny (model prog w) A.in1 (Builtin.List.listExtendWith (.ref S) (.ref it) res)
      (fun fin s' => match fin with | .done f => R (.ok f) s' | .again c' => c'.quiet = true ∧ codeAny (model prog w) A c' R s') (fun e s' => R (.error e) s') s := by
  have Wk := (Walks.listRev (prog := prog) (w := w) (A := A.in1) hh it l hne items).toS
  have hSf : S ∉ [it, l] := by
    simp only [List.mem_cons, List.not_mem_nil, or_false, not_or]
    exact ⟨hSi, hSl⟩
  have hT : s.TypeIs (.ref it) "list_reverseiterator" := hi.typeIs
  have h1 : Builtin.List.listSameRef (.ref S) (.ref it) = false := by simp [Builtin.List.listSameRef, hSi]
  unfold Builtin.List.listExtendWith
  refine wpAny_bind (wpAny_typeOf hT ?_)
  rw [if_neg (by rw [h1]; decide)]
  refine wpAny_bind (wpAny_pyIter_revIter hi (wpAny_bind (wpAny_holding ?_)))
  unfold Builtin.List.listLengthHint
  refine wpAny_bind (wpAny_specialOf hT RT.nolen_lri ?_)
  show wpAny _ A.in1 (specialOf (Value.ref it) (Str.ofString "__length_hint__") >>= _) _ _ _
  refine wpAny_bind (wpAny_specialOf hT RT.hint_lri ?_)
  generalize hid : ("list_reverseiterator.__length_hint__" : String) = hint
  wp_delta
  rw [show splitId hint = some ("list_reverseiterator", "__length_hint__") from by subst hid; decide +kernel]
  subst hid
  refine wpAny_bind (wpAny_isInstance (b := true) hT (by rw [isSubtype_type]; kernel_rfl) (wpAny_pure ?_))
  rw [if_neg (by decide)]
  have e0 : ((items.size : Nat) : Int) - 1 - ((0 : Nat) : Int) = (items.size : Int) - 1 := by omega
  refine wpAny_pure ⟨plainId_quiet F.plain_extend_loop _, codeAny_extend_loopS Wk hn S hSf res items.size 0 _ #[] c0 rfl (Nat.zero_le _) ⟨Nat.zero_le _, by rw [e0]; exact hi, hl⟩ hS (ItemsOf.nil _) fun s' acc c' hm hS' hacc => ?_⟩
  rw [Moved.eq_with hm]
  refine hR s'.heap s'.toks acc c' (fun b o hb hb2 e => hm.heap b o (fun z => ?_) e) hS' hacc
  rcases List.mem_cons.mp z with z | z
  · exact hb z
  · exact hb2 (List.mem_singleton.mp z)
theorem call_list_rev {Q : Value → Shared → Prop} (hh : A.handled = none) (hi : s.heap.IsRevIter it l ((items.size : Int) - 1)) (hl : s.heap.IsList l items) (hne : l ≠ it) (hn : items.size ≤ sizeLine)
    (hQ : ∀ (h' : Heap) (tk : Nat) (acc : Array Value) (c' : Nat), (∀ b o, b ≠ it → s.heap.get? b = some o → h'.get? b = some o) → h'.get? s.heap.objs.size = some { cls := .type "list", dict := none, data := .seq acc c', slots := #[] } →
      ItemsOf (fun i v => items[items.size - 1 - i]? = some v) acc items.size → Q (.ref s.heap.objs.size) { s with heap := h', toks := tk }) :
    wpAny (model prog w) A (call (.type "list") [.ref it]) Q E s := by
  obtain ⟨oi, hoi, _⟩ := id hi
  obtain ⟨ol, hol, _⟩ := id hl
  refine callType_codes (Q₁ := fun obj s1 => obj = .ref s.heap.objs.size ∧ s1 = { s with heap := s.heap.push { cls := .type "list", data := .seq #[] } }) PySem.F.called_list (PySem.F.typeCall_list_1 _) PySem.F.entry_list_init (code_list_new _ ⟨rfl, rfl⟩) fun obj s1 h1 => ?_
  obtain ⟨rfl, rfl⟩ := h1
  have hS : (s.heap.push { cls := .type "list", data := .seq #[] }).get? s.heap.objs.size = some { cls := .type "list", data := .seq #[] } := Heap.get?_push_size _ rfl
  refine ⟨⟨_, hS, rfl⟩, PySem.F.args_list_init_2 _ _, ?_⟩
  have nSi : s.heap.objs.size ≠ it := Nat.ne_of_gt (Heap.lt_size hoi)
  have nSl : s.heap.objs.size ≠ l := Nat.ne_of_gt (Heap.lt_size hol)
  show wpAny _ _ (do let old ← Builtin.List.listItems (.ref s.heap.objs.size); Builtin.List.listUpdate (.ref s.heap.objs.size) (fun _ => #[]); letGo old.toList.reverse; Builtin.List.listExtendWith (.ref s.heap.objs.size) (.ref it) .none) _ _ _
  refine wpAny_bind ?_
  unfold Builtin.List.listItems
  refine wpAny_bind (wpAny_seqItems hS rfl (wpAny_pure ?_))
  refine wpAny_bind (wpAny_updateSeq (a := s.heap.objs.size) hS rfl ?_)
  have hS2 := Heap.get?_update_self (Obj.mapSeq (fun _ => (#[] : Array Value))) hS rfl
  have other : ∀ b o, b ≠ s.heap.objs.size → (s.heap.push { cls := .type "list", data := .seq #[] }).get? b = some o → ((s.heap.push { cls := .type "list", data := .seq #[] }).update s.heap.objs.size (Obj.mapSeq (fun _ => (#[] : Array Value)))).get? b = some o :=
    fun b o hb e => (Heap.get?_update_other _ _ (Ne.symm hb)).trans e
  refine wpAny_bind (wpAny_letGo ?_)
  have hi2 := (hi.at (h' := s.heap.push { cls := .type "list", data := .seq #[] }) fun o e => Heap.get?_push_of_some _ e)
  refine rev_extend (A := A.in1) (items := items) (l := l) .none _ hh (hi2.at fun o e => other _ o (Ne.symm nSi) e) ⟨ol, other _ _ (Ne.symm nSl) (Heap.get?_push_of_some _ hol), (by obtain ⟨o', e1, e2⟩ := hl; rw [hol] at e1; cases e1; exact e2)⟩ hne hn hS2 nSi nSl fun h' tk acc c' hk hS' hacc => ?_
  exact ⟨rfl, hQ h' tk acc c' (fun b o hb e => hk b o (Nat.ne_of_lt (Heap.lt_size e)) hb (other b o (Nat.ne_of_lt (Heap.lt_size e)) (Heap.get?_push_of_some _ e))) hS' hacc⟩
end
/-- list(reversed(e)), e a list -/
def tLstRev (K : PySem.W.Frag) (te : TE) : TE := fun σ H Q => te σ H fun v H1 => ∃ (a : Addr) (xs : List V), v = .ref a ∧ SqL K H1 a xs ∧ ∀ q, H1 q = none → Q (.ref q) (upd H1 q (.lst xs.reverse))
section
variable {X : Cx}
theorem pe_lstRev {e : Expr} {te : TE} {p p2 pos pos2 : Pos} (hc : X.calm = true) (hg : Gl X "list") (hm : X.mg "list" = none) (hg2 : Gl X "reversed") (hm2 : X.mg "reversed" = none) (he : PE X e te)
    (n1 : starEach [e] X.env = (false, eval e X.env) :: starEach [] X.env := by rfl)
    (n2 : starEach [.Call (.Name "reversed" p2) [e] [] pos2] X.env = (false, eval (.Call (.Name "reversed" p2) [e] [] pos2) X.env) :: starEach [] X.env := by rfl) :
    PE X (.Call (.Name "list" p) [.Call (.Name "reversed" p2) [e] [] pos2] [] pos) (tLstRev X.K te) := by
  refine ⟨fun pins s σ H Q I h => ?_⟩
  refine Call_ (ld_blt I hg hm boot_list (PyProof.Rows.callWith_type1 (args_cons ?_ n2) n2 rfl))
  refine Call_ (ld_blt I hg2 hm2 PyProof.Rows.boot_reversed (PyProof.Rows.callWith_type1 (args_cons ?_ n1) n1 rfl))
  refine thn (he.run pins s σ H _ I h) fun u s1 ⟨v, H1, I1, r1, a, xs, ev, hq, q⟩ => args_nil ?_
  subst ev
  obtain rfl : u = Value.ref a := r1
  obtain ⟨its, rv, pl, hz⟩ := I1.list hq
  refine call_reversed_list pl.isList (args_nil ?_)
  have k0 : ∀ b o, s1.heap.get? b = some o → (s1.heap.push (revObj a ((its.toArray.size : Int) - 1))).get? b = some o := fun b o e => Heap.get?_push_of_some _ e
  have I2 : L2.Inv X pins σ H1 { s1 with heap := s1.heap.push (revObj a ((its.toArray.size : Int) - 1)) } := I1.kept (t' := s1.toks) k0
  obtain ⟨f0, f1, f2, f3, f4, f5⟩ := I1.fpOk (H' := H1) (b := s1.heap.objs.size) (Nat.le_refl _) (I1.hok.fresh (Nat.le_refl _))
  have il := pl.isList
  obtain ⟨ol, hol, _⟩ := id il
  have nea : a ≠ s1.heap.objs.size := Nat.ne_of_lt (Heap.lt_size hol)
  have hn : its.toArray.size ≤ sizeLine := by rw [List.size_toArray, ← rv.length]; exact hz
  refine call_list_rev (s := { s1 with heap := s1.heap.push (revObj a ((its.toArray.size : Int) - 1)) }) (I1.ok.hd hc) ⟨_, Heap.get?_push_size _ rfl, rfl, rfl⟩ (il.push _) nea hn fun h' tk acc c' hk hS hi => ?_
  have hsz : (s1.heap.push (revObj a ((its.toArray.size : Int) - 1))).objs.size = s1.heap.objs.size + 1 := Heap.size_push ..
  have fr : H1 (s1.heap.push (revObj a ((its.toArray.size : Int) - 1))).objs.size = none := I2.hok.fresh (Nat.le_refl _)
  have new : ObjOk X.prog X.w (upd H1 (s1.heap.push (revObj a ((its.toArray.size : Int) - 1))).objs.size (.lst xs.reverse)) h' (s1.heap.push (revObj a ((its.toArray.size : Int) - 1))).objs.size (.lst xs.reverse) :=
    ⟨by rw [List.length_reverse]; exact hz, acc.toList, c', RT.vals_rev rv hi, by rw [Array.toArray_toList]; exact hS⟩
  have I3 := I2.turnedNew (t' := tk) (ch := [s1.heap.objs.size]) (fun b o hb e => hk b o (fun z => hb (by rw [z]; exact List.mem_cons_self)) e) (fun b hb => by
    rw [List.mem_singleton.mp hb]
    exact ⟨f0, f1, f2, f3, f4, f5⟩) (Nat.le_refl _) new
  exact ⟨.ref (s1.heap.push (revObj a ((its.toArray.size : Int) - 1))).objs.size, _, I3, rfl, q _ fr⟩
/-! ### enumerate(t), t a tuple -/
theorem meets_enumT (t : Addr) (items : Array Value) (n : Nat) (dct : Option Addr) (sl : Array (Option Value)) :
    Meets (Builtin.«enumerate.__new__» ⟨[.type "enumerate", .ref t], []⟩) (fun _ R s => s.heap.get? t = some { cls := .type "tuple", dict := dct, data := .seq items n, slots := sl } ∧
      R (.ok (.ret (.ref (s.heap.push { cls := .type "tuple_iterator", data := .fields #[.ref t, .int 0 0] }).objs.size)))
        { s with heap := (s.heap.push { cls := .type "tuple_iterator", data := .fields #[.ref t, .int 0 0] }).push { cls := .type "enumerate", data := .fields #[.none, .bool false, .ref s.heap.objs.size, rawInt 0, .none, .none] } }) :=
  .of_wp fun prog w A R s h => by
    obtain ⟨hp, g, d, tk, os⟩ := s
    obtain ⟨hl, h⟩ := h
    have sub_ := sub_enumerate
    have hT : Heap.IsTuple (Shared.heap ⟨hp, g, d, tk, os⟩) t items := ⟨_, hl, rfl, n, rfl⟩
    wp_walk using AutoSeq1.wpAny_loadPart' hl
    refine wpAny_stack_any fun st => wpAny_pure ?_
    split
    · rename_i c _ _ _ _ _
      cases (c == Value.type "enumerate")
      · wp_walk using AutoSeq1.wpAny_loadPart' hl, wpAny_pyIter_tuple hT
        exact ⟨_, rfl, h⟩
      · wp_walk using AutoSeq1.wpAny_loadPart' hl, wpAny_pyIter_tuple hT
        exact ⟨_, rfl, h⟩
    · wp_walk using AutoSeq1.wpAny_loadPart' hl, wpAny_pyIter_tuple hT
      exact ⟨_, rfl, h⟩
theorem call_enumT {prog : Program} {w : World} {A : Around} {E : Value → Shared → Prop} {s : Shared} {t : Addr} {items : Array Value} {Q : Value → Shared → Prop} (hT : IsTup s.heap t items)
    (h : ∀ h', IsEnum h' (s.heap.objs.size + 1) s.heap.objs.size 0 .none → h'.IsTupleIter s.heap.objs.size t 0 → (∀ b o, s.heap.get? b = some o → h'.get? b = some o) → Q (.ref (s.heap.objs.size + 1)) { s with heap := h' }) :
    wpAny (model prog w) A (call (.type "enumerate") [.ref t]) Q E s := by
  obtain ⟨⟨c, dct, dt, sl⟩, hl, hc, n, hd⟩ := hT
  simp only at hc hd
  subst hc hd
  refine callType_new F.called_enumerate (by decide) (F.typeCall_enumerate_1 _) (F.newCall_enumerate_1 _) (fun obj => F.args_object_init_2 obj _) F.entry_enumerate_new (meets_enumT t items n dct sl) ⟨hl, ?_⟩
  generalize hh1 : s.heap.push { cls := .type "tuple_iterator", data := .fields #[.ref t, .int 0 0] } = h1
  have hz : h1.objs.size = s.heap.objs.size + 1 := by rw [← hh1]; exact Heap.size_push ..
  have he : IsEnum (h1.push { cls := .type "enumerate", data := .fields #[.none, .bool false, .ref s.heap.objs.size, rawInt 0, .none, .none] }) (s.heap.objs.size + 1) s.heap.objs.size 0 .none := by
    have e := Heap.get?_push_size h1 (o := { cls := .type "enumerate", data := .fields #[.none, .bool false, .ref s.heap.objs.size, rawInt 0, .none, .none] }) rfl
    rw [hz] at e
    exact e
  have k1 : ∀ b o, s.heap.get? b = some o → h1.get? b = some o := fun b o e => by rw [← hh1]; exact Heap.get?_push_of_some _ e
  have hti : h1.IsTupleIter s.heap.objs.size t 0 := by rw [← hh1]; exact ⟨_, Heap.get?_push_size _ rfl, rfl, rfl⟩
  show _ ∧ _
  rw [hz]
  exact ⟨⟨_, he, rfl⟩, h _ he (hti.at fun o e => Heap.get?_push_of_some _ e) fun b o e => Heap.get?_push_of_some _ (k1 b o e)⟩
/-- the tuple's items, each in a new pair with its place -/
def IteT (K : PySem.W.Frag) (a : Addr) (n : Nat) : It :=
  ⟨fun i H => i < n ∧ ∃ xs : List V, SqT K H a xs ∧ xs.length = n, fun i H v H' => ∃ T x, v = .ref T ∧ H T = none ∧ H' = upd H T (.tup [.int (i : Nat), x]) ∧ ∀ xs, SqT K H a xs → xs[i]? = some x, fun i H => n ≤ i ∧ ∃ xs : List V, SqT K H a xs ∧ xs.length = n⟩
theorem turn_enumT {P : Program} {w : World} {K : PySem.W.Frag} {elts : List Expr} {kk : Nat} {tpos : Pos} (a e it : Addr) (n : Nat) (nai : a ≠ it) (nae : a ≠ e) :
    Turn P w K (.Tuple elts kk tpos) (IteT K a n) [e, it] e (fun i h => (∃ old, IsEnum h e it ((i : Nat) : Int) old) ∧ h.IsTupleIter it a i ∧ e ≠ it ∧ i ≤ n) where
  mem := List.mem_cons_self
  obj := fun i h st b hb => by
    obtain ⟨⟨old, he⟩, ⟨o, ho, hc, hd⟩, _, _⟩ := st
    rcases List.mem_cons.mp hb with z | z
    · rw [z]
      exact ⟨_, he, fun v q => nomatch q⟩
    · exact ⟨o, by rw [List.mem_singleton.mp z]; exact ho, fun v q => by rw [hd] at q; cases q⟩
  keep := fun i h h' st k => by
    obtain ⟨⟨old, he⟩, hi, hne, hin⟩ := st
    exact ⟨⟨old, k e List.mem_cons_self _ he⟩, hi.at fun o q => k it (List.mem_cons_of_mem _ List.mem_cons_self) o q, hne, hin⟩
  item := by
    intro X hP hw hK hc i pins s σ H E I hf st hg
    subst hP hw hK
    obtain ⟨⟨old, he⟩, hit, hne, hin⟩ := st
    obtain ⟨hlt, xs, hq, hlen⟩ := hg
    obtain ⟨x, hx⟩ : ∃ x, xs[i]? = some x := ⟨xs[i], List.getElem?_eq_getElem (by omega)⟩
    obtain ⟨its, rv, p, hz⟩ := I.tuple hq
    obtain ⟨u, hu, ru⟩ := rv.get hx
    have hel : e < s.heap.objs.size := Heap.lt_size he
    have hil : it < s.heap.objs.size := by obtain ⟨_, q, _⟩ := hit; exact Heap.lt_size q
    have ilt : i < its.toArray.size := by
      have := (List.getElem?_eq_some_iff.mp hu).1
      simpa using this
    have tt : s.heap.IsTuple a its.toArray := p
    refine wpAny_pyNext_enum_itemD (i := i) (Draws.tuple (A := X.A.in1) (I.ok.hd hc) it a nai its.toArray) he ⟨hit, tt⟩ ilt hne (by simp [hne, Ne.symm nae]) fun y h' tk hP ho hs' hT hsz hk => ?_
    have ey : y = u := by
      rw [show its.toArray[i]? = some u by simpa using hu] at hP
      exact (Option.some.inj hP).symm
    subst ey
    refine ⟨_, rfl, wpAny_letOwnedTupleGo_enum (s := { s with heap := h', toks := tk + 1 }) ho fun h2 he2 sb => ?_⟩
    have hT2 : h2.get? s.heap.objs.size = some { cls := .type "tuple", data := .seq #[.int i tk, y] } := (sb.2 _ (Nat.ne_of_gt hel)).trans hT
    have new : ObjOk X.prog X.w (upd H s.heap.objs.size (.tup [.int (i : Nat), x])) h2 s.heap.objs.size (.tup [.int (i : Nat), x]) :=
      ⟨by show 2 ≤ sizeLine; decide, [.int i tk, y], .cons ⟨_, rfl⟩ (.cons ru .nil), ⟨_, hT2, rfl, _, rfl⟩⟩
    have I1 := I.turnedNew (t' := tk + 1) (ch := [e, it]) (fun b ob hb q => (sb.2 b fun z => hb (by rw [z]; exact List.mem_cons_self)).trans (hk b ob (fun z => hb (by rw [z]; exact List.mem_cons_self)) (fun z => hb (by rw [z]; exact List.mem_cons_of_mem _ List.mem_cons_self)) q)) hf (Nat.le_refl _) new
    refine ⟨.ref s.heap.objs.size, _, I1, rfl, ⟨_, x, rfl, I.hok.fresh (Nat.le_refl _), rfl, fun ys hy => by rw [I.tuple_inj hy hq]; exact hx⟩, ⟨⟨y, ?_⟩, hs'.1.at fun o q => (sb.2 it (Ne.symm hne)).trans q, hne, hlt⟩, fun b hb => ?_⟩
    · have e1 : ((i + 1 : Nat) : Int) = (i : Int) + 1 := by omega
      rw [e1]
      exact he2
    · have hb2 : b < s.heap.objs.size := by
        rcases List.mem_cons.mp hb with z | z
        · rw [z]; exact hel
        · rw [List.mem_singleton.mp z]; exact hil
      rw [upd_ne (Nat.ne_of_lt hb2)]
      exact (hf b hb).1
  done := by
    intro X hP hw hK hc i pins s σ H E I hf st hg
    subst hP hw hK
    obtain ⟨⟨old, he⟩, hit, hne, hin⟩ := st
    obtain ⟨hge, xs, hq, hlen⟩ := hg
    obtain ⟨its, rv, p, hz⟩ := I.tuple hq
    obtain ⟨f0, f1, f2, f3, f4, f5⟩ := hf it (List.mem_cons_of_mem _ List.mem_cons_self)
    have hl := rv.length
    have tt : s.heap.IsTuple a its.toArray := p
    have ei : i = its.toArray.size := by rw [List.size_toArray]; omega
    refine wpAny_pyNext_enum_endD (i := ((i : Nat) : Int)) (Draws.tuple (A := X.A.in1) (I.ok.hd hc) it a nai its.toArray) he ⟨by rw [← ei]; exact hit, tt⟩ fun h' eb => ⟨rfl, ?_⟩
    exact I.turned (t' := s.toks) (fun b o hb q => eb b o hb q) f0 f1 f3 f4 f5
  self := fun A i s Q E st h => by
    obtain ⟨⟨_, he⟩, _⟩ := st
    exact wpAny_pyIter_enum he h
def iEnumT (K : PySem.W.Frag) (ta : TA) : TI := fun σ H R => ta σ H fun vs H1 => ∃ a xs, vs = [.ref a] ∧ SqT K H1 a xs ∧ R (IteT K a xs.length) H1
theorem pi_enumT {e : Expr} {ta : TA} {p pos tpos : Pos} {elts : List Expr} {kk : Nat} (hg : Gl X "enumerate") (hm : X.mg "enumerate" = none) (ha : PA X [e] ta) (hs : starEach [e] X.env = [(false, eval e X.env)] := by rfl) :
    PI X (.Tuple elts kk tpos) (.Call (.Name "enumerate" p) [e] [] pos) (iEnumT X.K ta) := by
  refine ⟨fun pins s σ H R I h => ?_⟩
  refine Call_ (ld_blt I hg hm boot_enumerate (PyProof.Rows.callWith_type1 (thn (ha.run pos pins s σ H _ I h) fun us s1 ⟨vs, H1, I1, r1, a, xs, ex, hq, q⟩ => ?_) hs rfl))
  subst ex
  obtain ⟨u, rfl, ru⟩ := vals1 r1
  cases ru
  obtain ⟨its, rv, tp, hz⟩ := I1.tuple hq
  have lt := tp.lt
  refine call_enumT tp fun h' he hit hk => wpAny_pyIter_enum he ?_
  refine ⟨s1.heap.objs.size + 1, [s1.heap.objs.size + 1, s1.heap.objs.size], _, _, H1, rfl, I1.kept (t' := s1.toks) hk, turn_enumT a (s1.heap.objs.size + 1) s1.heap.objs.size xs.length (Nat.ne_of_lt lt) (Nat.ne_of_lt (Nat.lt_succ_of_lt lt)), ⟨⟨.none, he⟩, hit, Nat.succ_ne_self _, Nat.zero_le _⟩, fun b hb => ?_, q⟩
  have hle : s1.heap.objs.size ≤ b := by
    rcases List.mem_cons.mp hb with z | z
    · rw [z]
      exact Nat.le_succ _
    · rw [List.mem_singleton.mp z]
      exact Nat.le_refl _
  exact I1.fpOk hle (I1.hok.fresh hle)
theorem walk_enumT {K : PySem.W.Frag} {a : Addr} {xs : List V} : Walk (IteT K a xs.length) xs.length (fun H => SqT K H a xs) (YPair (fun i => some (.int (i : Nat))) (fun i => xs[i]?)) := by
  refine ⟨fun i _ hi q => ⟨hi, xs, q, rfl⟩, fun _ q => ⟨Nat.le_refl _, xs, q, rfl⟩, fun i H v H' _ q y => ?_⟩
  obtain ⟨T, x, h1, h2, h3, h4⟩ := y
  exact ⟨T, .int (i : Nat), x, h1, h2, h3, rfl, h4 xs q⟩
end
end MW
/-! ## W2 -/
namespace MW
open PySem PySem.Spec PyProof.Rows L2
/-! ### zip(t, u) as a value that a comprehension walks later -/
/-- an object that stands as it is -/
def fixO (c : Addr) (o : Obj) : HO := .ext fun h => h.get? c = some o
theorem fixO_ok {P : Program} {w : World} {H : Hp} {h : Heap} {c : Addr} {o : Obj} (e : h.get? c = some o) : ObjOk P w H h c (fixO c o) := ⟨e, ⟨o, e⟩, fun _ _ p k => k o p⟩
section
variable {X : Cx} {pins : List (Addr × Obj)} {σ : L2.St} {H : Hp} {s : Shared}
/-- an object of ours that was not tracked is tracked -/
theorem track {a : Addr} {u : HO} (I : L2.Inv X pins σ H s) (f : FpOk X pins H a) (new : ObjOk X.prog X.w (upd H a u) s.heap a u) : L2.Inv X pins σ (upd H a u) s := by
  obtain ⟨f0, f1, f2, f3, f4, f5⟩ := f
  have nt : ∀ b v, H b = some v → b ≠ a := fun b v e z => by
    rw [z, f0] at e
    cases e
  refine I.step (g' := s.gens) (d' := s.drawn) (t' := s.toks) (h' := s.heap) (ch := [a]) (fun b hb => ?_) (fun b o _ _ _ e _ => e) (fun b o _ _ _ e _ => ⟨o.slots, e⟩) (fun b o hc _ n => ?_) (fun b o _ e => ⟨o, e⟩)
    (fun b xs e => by rw [upd_ne (nt b _ e)]; exact e) (fun b o v e => by rw [upd_ne (nt b _ e)]; exact e) (fun b ps e => ⟨#[], by rw [upd_ne (nt b _ e), e]; simp⟩) (fun m hm => hm) (fun b v e => ?_) I.bare
  · rw [List.mem_singleton.mp hb]
    exact ⟨f3, f1, f4, f5⟩
  · rw [upd_ne fun z => hc (List.mem_singleton.mpr z)]
    exact n
  · by_cases hb : b = a
    · subst hb
      rw [upd_same] at e
      cases e
      exact new
    · rw [upd_ne hb] at e
      exact (I.hok b v e).stay (fun _ _ _ q => q) (fun c q => by rw [upd_ne (nt c _ q)]; exact q) fun c xs q => by rw [upd_ne (nt c _ q)]; exact q
theorem fp_upd {a b : Addr} {u : HO} (f : FpOk X pins H b) (h : b ≠ a) : FpOk X pins (upd H a u) b := ⟨by rw [upd_ne h]; exact f.1, f.2⟩
end
/-- the zip object at z over the tuples at a and b, with what belongs to it: all of it new over Hb, and younger than n -/
def ZipAt (n : Nat) (Hb H : Hp) (z a b : Addr) : Prop := ∃ (TI TO i1 i2 : Addr) (oz oI oO o1 o2 : Obj), ZipApart z TI TO i1 i2 a b ∧ (∀ c ∈ [z, TI, TO, i1, i2], Hb c = none ∧ n ≤ c) ∧
  H z = some (fixO z oz) ∧ H TI = some (fixO TI oI) ∧ H TO = some (fixO TO oO) ∧ H i1 = some (fixO i1 o1) ∧ H i2 = some (fixO i2 o2) ∧
  (∀ h : Heap, h.get? z = some oz → IsZip h z TI TO .none) ∧ (∀ h : Heap, h.get? TI = some oI → IsPair h TI (.ref i1) (.ref i2)) ∧ (∀ h : Heap, h.get? TO = some oO → ∃ x y, IsPair h TO x y) ∧
  (∀ h : Heap, h.get? i1 = some o1 → h.IsTupleIter i1 a 0) ∧ ∀ h : Heap, h.get? i2 = some o2 → h.IsTupleIter i2 b 0
theorem ZipAt.ex {n : Nat} {Hb H H' : Hp} {z a b : Addr} (h : ZipAt n Hb H z a b) (e : ∀ c o, H c = some o → H' c = some o) : ZipAt n Hb H' z a b := by
  obtain ⟨TI, TO, i1, i2, oz, oI, oO, o1, o2, D, f, h1, h2, h3, h4, h5, r⟩ := h
  exact ⟨TI, TO, i1, i2, oz, oI, oO, o1, o2, D, f, e _ _ h1, e _ _ h2, e _ _ h3, e _ _ h4, e _ _ h5, r⟩
section
variable {X : Cx}
theorem call_zipV : CallR X (.type "zip") (fun xs H Q => ∃ a b xs1 ys1, xs = [.ref a, .ref b] ∧ SqT X.K H a xs1 ∧ SqT X.K H b ys1 ∧ ∀ z H', (∀ c o, H c = some o → H' c = some o) → ZipAt X.s_0.heap.objs.size H H' z a b → Q (.ref z) H') := by
  intro pins s σ H xs us Q I r h
  obtain ⟨a, b, xs1, ys1, rfl, hqx, hqy, q⟩ := h
  obtain ⟨u1, u2, rfl, r1, r2⟩ := vals2 r
  cases r1
  cases r2
  obtain ⟨its, rv, p1, _⟩ := I.tuple hqx
  obtain ⟨its2, rv2, p2, _⟩ := I.tuple hqy
  have l1 : a < s.heap.objs.size := p1.lt
  have l2 : b < s.heap.objs.size := p2.lt
  refine RZ.call_zipT (show s.heap.IsTuple a its.toArray from p1) (show s.heap.IsTuple b its2.toArray from p2) fun h' hz hTI hTO h1 h2 hsz hk => ?_
  have D := PySem.W.ktu_apart s.heap.objs.size a b l1 l2
  generalize hN : s.heap.objs.size = N at *
  have I0 : L2.Inv X pins σ H { s with heap := h' } := I.kept (t' := s.toks) hk
  have fr : ∀ k : Nat, FpOk X pins H (N + k) := fun k => I.fpOk (by rw [hN]; exact Nat.le_add_right _ _) (I.hok.fresh (by rw [hN]; exact Nat.le_add_right _ _))
  obtain ⟨oz, ez⟩ : ∃ o, h'.get? (N + 4) = some o := ⟨_, hz⟩
  obtain ⟨oI, eI⟩ : ∃ o, h'.get? (N + 2) = some o := ⟨_, hTI⟩
  obtain ⟨oO, eO⟩ : ∃ o, h'.get? (N + 3) = some o := ⟨_, hTO⟩
  obtain ⟨o1, e1⟩ : ∃ o, h'.get? N = some o := let ⟨o, e, _⟩ := h1; ⟨o, e⟩
  obtain ⟨o2, e2⟩ : ∃ o, h'.get? (N + 1) = some o := let ⟨o, e, _⟩ := h2; ⟨o, e⟩
  have ne : ∀ j k : Nat, j ≠ k → (N + j : Addr) ≠ N + k := fun j k h z => h (Nat.add_left_cancel z)
  have f0 : FpOk X pins H N := fr 0
  have n0 : ∀ k : Nat, k ≠ 0 → (N + k : Addr) ≠ N := fun k h z => h (Nat.add_left_cancel (show N + k = N + 0 from z))
  have I1 := track I0 (fr 4) (u := fixO (N + 4) oz) (fixO_ok ez)
  have I2 := track I1 (fp_upd (fr 2) (ne 2 4 (by decide))) (u := fixO (N + 2) oI) (fixO_ok eI)
  have I3 := track I2 (fp_upd (fp_upd (fr 3) (ne 3 4 (by decide))) (ne 3 2 (by decide))) (u := fixO (N + 3) oO) (fixO_ok eO)
  have I4 := track I3 (fp_upd (fp_upd (fp_upd f0 (Ne.symm (n0 4 (by decide)))) (Ne.symm (n0 2 (by decide)))) (Ne.symm (n0 3 (by decide)))) (u := fixO N o1) (fixO_ok e1)
  have I5 := track I4 (fp_upd (fp_upd (fp_upd (fp_upd (fr 1) (ne 1 4 (by decide))) (ne 1 2 (by decide))) (ne 1 3 (by decide))) (n0 1 (by decide))) (u := fixO (N + 1) o2) (fixO_ok e2)
  refine ⟨.ref (N + 4), _, I5, rfl, q (N + 4) _ (fun c o e => ?_) ⟨N + 2, N + 3, N, N + 1, oz, oI, oO, o1, o2, D, fun c hc => ?_, ?_, ?_, ?_, ?_, ?_, ?_, ?_, ?_, ?_, ?_⟩⟩
  · have nc : ∀ k : Nat, c ≠ N + k := fun k z => by
      rw [z, (fr k).1] at e
      cases e
    have nc0 : c ≠ N := nc 0
    rw [upd_ne (nc 1), upd_ne nc0, upd_ne (nc 3), upd_ne (nc 2), upd_ne (nc 4)]
    exact e
  · have all : ∃ k : Nat, c = N + k := by
      simp only [List.mem_cons, List.not_mem_nil, or_false] at hc
      rcases hc with z | z | z | z | z
      · exact ⟨4, z⟩
      · exact ⟨2, z⟩
      · exact ⟨3, z⟩
      · exact ⟨0, z⟩
      · exact ⟨1, z⟩
    obtain ⟨k, rfl⟩ := all
    have sz := I.sz
    rw [hN] at sz
    exact ⟨(fr k).1, Nat.le_trans sz (Nat.le_add_right _ _)⟩
  · rw [upd_ne (ne 4 1 (by decide)), upd_ne (n0 4 (by decide)), upd_ne (ne 4 3 (by decide)), upd_ne (ne 4 2 (by decide)), upd_same]
  · rw [upd_ne (ne 2 1 (by decide)), upd_ne (n0 2 (by decide)), upd_ne (ne 2 3 (by decide)), upd_same]
  · rw [upd_ne (ne 3 1 (by decide)), upd_ne (n0 3 (by decide)), upd_same]
  · rw [upd_ne (Ne.symm (n0 1 (by decide))), upd_same]
  · rw [upd_same]
  · intro h e
    rw [← ez] at e
    exact e.trans hz
  · intro h e
    rw [← eI] at e
    exact e.trans hTI
  · intro h e
    rw [← eO] at e
    exact ⟨_, _, e.trans hTO⟩
  · exact fun h e => h1.at fun o q => by rw [q] at e1; cases e1; exact e
  · exact fun h e => h2.at fun o q => by rw [q] at e2; cases e2; exact e
/-- for p, q in m, m a local name that holds it -/
def iZipV (K : PySem.W.Frag) (n : Nat) (k : Nat) : TI := fun σ H R => ∃ (z a b : Addr) (Hb : Hp), σ[k]? = some (some (.ref z)) ∧ ZipAt n Hb H z a b ∧ ∀ H', (∀ c o, H c = some o → (∀ c' o', o ≠ fixO c' o') → H' c = some o) → (∀ c o, Hb c = some o → H c = some o → H' c = some o) → R (RZ.ItzT K a b) H'
theorem pi_zipV {x : Str} {p tpos : Pos} {elts : List Expr} {kk k : Nat} (hN : X.N[k]? = some x) (hv : Vis X.env.scope x) (hd : (x == ("__debug__" : Str)) = false := by decide) (hcd : (x == ("__classdict__" : Str)) = false := by decide) :
    PI X (.Tuple elts kk tpos) (.Name x p) (iZipV X.K X.s_0.heap.objs.size k) := by
  refine ⟨fun pins s σ H R I h => ?_⟩
  obtain ⟨z, a, b, Hb, hs, ⟨TI, TO, i1, i2, oz, oI, oO, o1, o2, D, fr, h1, h2, h3, h4, h5, g1, g2, g3, g4, g5⟩, q⟩ := h
  refine thn ((pe_var (pos := p) (i := k) hN hv hd hcd).run pins s σ H (fun v H1 => v = .ref z ∧ H1 = H) I ⟨.ref z, hs, rfl, rfl⟩) fun u s1 ⟨v, H1, I1, r1, ev, eH⟩ => ?_
  subst ev
  rw [eH] at I1
  cases r1
  have ez : s1.heap.get? z = some oz := (I1.hok z _ h1).1
  have eI : s1.heap.get? TI = some oI := (I1.hok TI _ h2).1
  have eO : s1.heap.get? TO = some oO := (I1.hok TO _ h3).1
  have e1 : s1.heap.get? i1 = some o1 := (I1.hok i1 _ h4).1
  have e2 : s1.heap.get? i2 = some o2 := (I1.hok i2 _ h5).1
  have J1 := ItX.inv_drop I1 h1
  have k2 : ItX.dropH H z TI = some (fixO TI oI) := by rw [ItX.dropH_ne D.TIz]; exact h2
  have J2 := ItX.inv_drop J1 k2
  have k3 : ItX.dropH (ItX.dropH H z) TI TO = some (fixO TO oO) := by rw [ItX.dropH_ne (Ne.symm D.TITO), ItX.dropH_ne D.TOz]; exact h3
  have J3 := ItX.inv_drop J2 k3
  have k4 : ItX.dropH (ItX.dropH (ItX.dropH H z) TI) TO i1 = some (fixO i1 o1) := by rw [ItX.dropH_ne (Ne.symm D.TOi1), ItX.dropH_ne (Ne.symm D.TIi1), ItX.dropH_ne D.i1z]; exact h4
  have J4 := ItX.inv_drop J3 k4
  have k5 : ItX.dropH (ItX.dropH (ItX.dropH (ItX.dropH H z) TI) TO) i1 i2 = some (fixO i2 o2) := by rw [ItX.dropH_ne (Ne.symm D.i12), ItX.dropH_ne (Ne.symm D.TOi2), ItX.dropH_ne (Ne.symm D.TIi2), ItX.dropH_ne D.i2z]; exact h5
  have J5 := ItX.inv_drop J4 k5
  have st : IsZip s1.heap z TI TO .none ∧ IsPair s1.heap TI (.ref i1) (.ref i2) ∧ (∃ x y, IsPair s1.heap TO x y) ∧ s1.heap.IsTupleIter i1 a 0 ∧ s1.heap.IsTupleIter i2 b 0 := ⟨g1 _ ez, g2 _ eI, g3 _ eO, g4 _ e1, g5 _ e2⟩
  refine (RZ.turn_zipT (P := X.prog) (w := X.w) (K := X.K) (elts := elts) (kk := kk) (tpos := tpos) D).self X.A 0 s1 _ _ st ?_
  have gone : ∀ c, c ∈ [z, TI, TO, i1, i2] → ItX.dropH (ItX.dropH (ItX.dropH (ItX.dropH (ItX.dropH H z) TI) TO) i1) i2 c = none := fun c hc => by
    unfold ItX.dropH
    simp only [List.mem_cons, List.not_mem_nil, or_false] at hc
    split
    · rfl
    · split
      · rfl
      · split
        · rfl
        · split
          · rfl
          · split
            · rfl
            · rename_i n5 n4 n3 n2 n1
              rcases hc with w | w | w | w | w <;> contradiction
  have kept : ∀ c o, H c = some o → c ∉ [z, TI, TO, i1, i2] → ItX.dropH (ItX.dropH (ItX.dropH (ItX.dropH (ItX.dropH H z) TI) TO) i1) i2 c = some o := fun c o e hc => by
    simp only [List.mem_cons, List.not_mem_nil, or_false, not_or] at hc
    rw [ItX.dropH_ne hc.2.2.2.2, ItX.dropH_ne hc.2.2.2.1, ItX.dropH_ne hc.2.2.1, ItX.dropH_ne hc.2.1, ItX.dropH_ne hc.1]
    exact e
  refine ⟨z, [z, TI, TO, i1, i2], _, _, _, rfl, J5, RZ.turn_zipT D, st, fun c hc => ?_, q _ (fun c o e n => kept c o e fun hc => ?_) fun c o e e' => kept c o e' fun hc => ?_⟩
  · have hn := (fr c hc).2
    simp only [List.mem_cons, List.not_mem_nil, or_false] at hc
    have base : ∃ u, H c = some u := by
      rcases hc with w | w | w | w | w
      · exact ⟨_, by rw [w]; exact h1⟩
      · exact ⟨_, by rw [w]; exact h2⟩
      · exact ⟨_, by rw [w]; exact h3⟩
      · exact ⟨_, by rw [w]; exact h4⟩
      · exact ⟨_, by rw [w]; exact h5⟩
    obtain ⟨u, hu⟩ := base
    have f := ItX.inv_fp I1 hu hn
    exact ⟨gone c (by simp only [List.mem_cons, List.not_mem_nil, or_false]; exact hc), f.2⟩
  · simp only [List.mem_cons, List.not_mem_nil, or_false] at hc
    rcases hc with w | w | w | w | w
    · rw [w, h1] at e; exact n _ _ (Option.some.inj e).symm
    · rw [w, h2] at e; exact n _ _ (Option.some.inj e).symm
    · rw [w, h3] at e; exact n _ _ (Option.some.inj e).symm
    · rw [w, h4] at e; exact n _ _ (Option.some.inj e).symm
    · rw [w, h5] at e; exact n _ _ (Option.some.inj e).symm
  · have z0 := (fr c hc).1
    rw [z0] at e
    cases e
end
end MW
/-! ## W3 -/
namespace MW
open PySem PySem.Spec PyProof.Rows L2
/-! ### {k: v for target in iter}, the keys tuples -/
section
variable {X : Cx}
theorem dictSetT {pins : List (Addr × Obj)} {σ : L2.St} {H : Hp} {s : Shared} {E : Value → Shared → Prop} {D b : Addr} {kvs : List (List Key × V)} {ks : List Key} {v : V} {r : Value} {Q : Unit → Shared → Prop} (hu : X.A.units < cLine) (I : L2.Inv X pins σ H s) (hD : H D = some (.dT kvs)) (hb : H b = some (.tup (ks.map kV)))
    (hz : kvs.length < sizeLine) (rv : RelV v r) (h : ∀ s', L2.Inv X pins σ (upd H D (.dT (putK kvs ks v))) s' → Q () s') : wpAny (model X.prog X.w) X.A (dictSet D (.ref b) r) Q E s := by
  obtain ⟨z, hd, xs, rel, dd⟩ := dt_of I.hok hD
  have hl := length_putK kvs ks v
  have hxl := Paired.length rel
  refine wpAny_dictSet_heap (hsz := by omega) (show (tupleKind (mixKind X.prog X.w)).room X.A from hu) (key_of I.hok hb) dd fun h' hm hs => h _ ?_
  exact dT_write I hD trivial (by omega) hd (rel.put ks hb rv) hm hs
def tDcT (wi : TI) (g : TG) (tk tv : TE) (vs : List Nat) : TE := fun σ H Q => wi σ H fun J H1 => ∀ D, H1 D = none → ∃ W : Nat → Nat → Hp → Prop, (∃ m, W 0 m (upd H1 D (.dT []))) ∧ ∀ i m H, W i m H →
  (J.stop i H ∧ Q (.ref D) H) ∨ (J.go i H ∧ ∃ Nx : Hp → Prop, (∀ H', Nx H' → ∃ m', m' < m ∧ W (i + 1) m' H') ∧ ∀ x H', J.yld i H x H' → g x (wipe σ vs) H' fun σ2 H2 => wipe σ2 vs = wipe σ vs ∧
    tk σ2 H2 fun y H4 => tv σ2 H4 fun z H5 => ∃ (kvs : List (List Key × V)) (ks : List Key) (b : Addr), y = .ref b ∧ H5 b = some (.tup (ks.map kV)) ∧ H5 D = some (.dT kvs) ∧ kvs.length < sizeLine ∧ Nx (upd H5 D (.dT (putK kvs ks z))))
theorem dcT_run {pins : List (Addr × Obj)} {s : Shared} {σ : L2.St} {H : Hp} {Q : VK} {ek ev tg iter : Expr} {scope : Scope} {own : List (Str × Nat)} {pos pos' : Pos} {wi : TI} {g : TG} {tk tv : TE} {use : Option (Value → Sem Unit)} {Qf : Value → Shared → Prop} (hu : X.A.units < cLine)
    (calm : X.calm = true) (ndN : X.N.Nodup) (I : L2.Inv X pins σ H s) (pi : PI X tg iter wi) (blk : BlkOk X.N X.env.scope scope own)
    (pgs : ∀ (s : Shared) (H : Hp) (C : Addr) (cl : List (Str × Addr)) (fp : List Addr), PG (X.blk s H scope (compEnvC scope cl C X.env) fp) tg g)
    (pks : ∀ (s : Shared) (H : Hp) (C : Addr) (cl : List (Str × Addr)) (fp : List Addr), PE (X.blk s H scope (compEnvC scope cl C X.env) fp) ek tk)
    (pvs : ∀ (s : Shared) (H : Hp) (C : Addr) (cl : List (Str × Addr)) (fp : List Addr), PE (X.blk s H scope (compEnvC scope cl C X.env) fp) ev tv) (nofold : ∀ x, foldedSetIterable iter X.env x = pure x)
    (h : tDcT wi g tk tv (own.map (·.2)) σ H Q)
    (back : ∀ D C s' m H', L2.Inv X pins σ H' s' → Q (.ref D) H' → s'.heap.Ns C m → FpOk X pins H' C → compPost (model X.prog X.w) X.A X.xe use Qf (.ref D) C (.ok .next) s') :
    wpAny (model X.prog X.w) X.A (comprehension (.DictComp ek ev [⟨tg, iter, [], 0⟩] scope pos) scope X.env pos' newDict false (eval iter X.env) use) Qf X.xe s := by
  have clo : ∀ y ∈ scope.names, y.2 = .free → ∃ c, X.env.cells.lookup y.1 = some c := fun y hy e => I.ok.has _ ((blk.free y hy e).imp id id)
  refine wpAny_comprehension_free (use := use) rfl nofold (closure_ok clo) blk.kind (fun y hy e => by rw [blk.uniq y hy, e]) (thn (pi.run pins s σ H _ I h) fun xv sA hA => thn hA fun itv sB hB => ?_)
  obtain ⟨it, fp, tn, J, HB, rfl, IB, T, stB, fB, q⟩ := hB
  refine wpAny_newObj_type ?_
  refine newEnv_comp ?_
  generalize eD : sB.heap.objs.size = D
  have hDn : HB D = none := IB.hok.fresh (Nat.le_of_eq eD)
  obtain ⟨W, ⟨m0, w0⟩, turn⟩ := q D hDn
  generalize eC : ({ sB with heap := sB.heap.push { cls := .type "dict", data := .dict #[] } } : Shared) = sC
  have IC : L2.Inv X pins σ (upd HB D (.dT [])) sC := by
    rw [← eC, ← eD]
    exact newT IB
  have hC : sC.heap = sB.heap.push { cls := .type "dict", data := .dict #[] } := by rw [← eC]
  have fC : ∀ b ∈ fp, FpOk X pins (upd HB D (.dT [])) b ∧ b < sC.heap.objs.size := fun b hb => by
    obtain ⟨o, e, _⟩ := T.obj _ _ stB b hb
    have hlt := Heap.lt_size e
    refine ⟨fp_upd (fB b hb) (by rw [← eD]; exact Nat.ne_of_lt hlt), ?_⟩
    rw [hC, Heap.size_push]
    exact Nat.lt_succ_of_lt hlt
  have stC : tn 0 sC.heap := T.keep _ _ _ stB fun b _ o e => by
    rw [hC]
    exact Heap.get?_push_of_some _ e
  have ID := block_start IC blk ndN fC
  show codeAny _ _ (.compStart (.DictComp ek ev [⟨tg, iter, [], 0⟩] scope pos) 0 (.ref it) (.ref D) (compEnvC scope (cellsFrom (sC.heap.objs.size + 1) scope.names (cloFrom X.env.cells scope.names [])) sC.heap.objs.size X.env)) (compPost (model X.prog X.w) X.A X.xe use Qf (.ref D) sC.heap.objs.size) { sC with heap := pushCells (sC.heap.push { cls := .type "dict", data := .dict #[] }) scope.names }
  generalize ecl : cellsFrom (sC.heap.objs.size + 1) scope.names (cloFrom X.env.cells scope.names []) = cl at ID ⊢
  have pg := pgs sC (upd HB D (.dT [])) sC.heap.objs.size cl fp
  have pk := pks sC (upd HB D (.dT [])) sC.heap.objs.size cl fp
  have pv_ := pvs sC (upd HB D (.dT [])) sC.heap.objs.size cl fp
  have nC : ∀ b ∈ fp, (upd HB D (.dT [])) b = none := fun b hb => (fC b hb).1.1
  generalize ece : compEnvC scope cl sC.heap.objs.size X.env = ce at ID pg pk pv_ ⊢
  have loc : ce.locals = sC.heap.objs.size := by subst ece; rfl
  generalize eHC : upd HB D (.dT []) = HC at IC ID pg pk pv_ w0 nC fC
  generalize eE : ({ sC with heap := pushCells (sC.heap.push { cls := .type "dict", data := .dict #[] }) scope.names } : Shared) = sE at ID ⊢
  have stE : tn 0 sE.heap := T.keep _ _ _ stC fun b _ o e => by
    rw [← eE]
    exact pushCells_keeps _ _ _ _ (Heap.get?_push_of_some _ e)
  have still : ∀ {σ' : L2.St} {H' : Hp} {s' : Shared}, L2.Inv (X.blk sC HC scope ce fp) [] σ' H' s' → (∀ b ∈ fp, H' b = none) → ∀ b ∈ fp, FpOk (X.blk sC HC scope ce fp) [] H' b := fun {σ' H' s'} I' hn b hb =>
    ⟨hn b hb, (I'.ok.exf b hb).1, I'.ok.exfs b hb, .inl hb, fun x c e => (I'.ok.exf b hb).2 x c e, fun p hp => absurd (show p ∈ ([] : List (Addr × Obj)) ++ [] from hp) (by simp)⟩
  have loop : codeAny (model X.prog X.w) X.A (.compLoop (.DictComp ek ev [⟨tg, iter, [], 0⟩] scope pos) 0 (.ref it) (.ref D) ce) (compPost (model X.prog X.w) X.A X.xe use Qf (.ref D) sC.heap.objs.size) sE := by
    refine compLoop_anyD (fun n s' => ∃ i H', L2.Inv (X.blk sC HC scope ce fp) [] (wipe σ (own.map (·.2))) H' s' ∧ tn i s'.heap ∧ (∀ b ∈ fp, H' b = none) ∧ W i n H') ?_ m0 ⟨0, HC, ID, stE, nC, w0⟩
    rintro n sF ⟨i, HF, IF, stF, nF, wF⟩
    rcases turn i n HF wF with ⟨stop, fin⟩ | ⟨go, Nx, hNx, step⟩
    · refine thnF (T.done (X.blk sC HC scope ce fp) rfl rfl rfl calm i [] sF _ HF (fun _ _ => False) IF (still IF nF) stF stop) fun r sG ⟨hr, IG⟩ => ?_
      subst hr
      have IH : L2.Inv X pins σ HF sG := IC.call' (ch := fp) IG.os IG.base IG.hok IG.bare fun b hb => by
        obtain ⟨_, f1, _, f3, f4, f5⟩ := (fC b hb).1
        exact ⟨f3, f1, f4, f5⟩
      have z : HF ce.locals = none := IG.free
      obtain ⟨m, hn, _⟩ := IG.loc
      have hn : sG.heap.Ns ce.locals m := hn
      rw [loc] at hn z
      exact back D sC.heap.objs.size sG m HF IH fin hn (IC.fpOk (Nat.le_refl _) z)
    · refine thnF (T.item (X.blk sC HC scope ce fp) rfl rfl rfl calm i [] sF _ HF (fun _ _ => False) IF (still IF nF) stF go) fun r sG ⟨u, hr, hG⟩ => ?_
      subst hr
      refine thnF hG fun _ sH ⟨x, HH, IH, rH, yH, stH, nH⟩ => ?_
      have IH' := IH.pinned (still IH nH) (T.obj _ _ stH)
      refine thnF (pg.run _ sH _ HH x u _ IH' rH (step x HH yH)) fun _ sI ⟨σI, HI, II, wipeI, qI⟩ => ?_
      have again : ∀ {s' : Shared} {H' : Hp}, L2.Inv (X.blk sC HC scope ce fp) ([] ++ pinsAt fp sH.heap) σI H' s' → Nx H' → ∃ m, m < n ∧ ∃ i H', L2.Inv (X.blk sC HC scope ce fp) [] (wipe σ (own.map (·.2))) H' s' ∧ tn i s'.heap ∧ (∀ b ∈ fp, H' b = none) ∧ W i m H' := fun {s' H'} I' nx => by
        obtain ⟨m', hm, w'⟩ := hNx H' nx
        have pinned : ∀ b ∈ fp, ∀ o, sH.heap.get? b = some o → s'.heap.get? b = some o ∧ H' b = none := fun b hb o e => by
          obtain ⟨z1, z2, _⟩ := I'.pin (b, o) (List.mem_append_right _ (List.mem_append_right _ (mem_pinsAt hb e)))
          exact ⟨z1, z2⟩
        have hl : (wipe σ (own.map (·.2))).length = σI.length := by rw [← wipeI, wipe_length]
        refine ⟨m', hm, i + 1, H', (I'.unpinned (pins := [])).weak hl (fun j v e => ?_), T.keep _ _ _ stH fun b hb o e => (pinned b hb o e).1, fun b hb => ?_, w'⟩
        · rw [← wipeI] at e
          exact (wipe_some e).1
        · obtain ⟨o, e, _⟩ := T.obj _ _ stH b hb
          exact (pinned b hb o e).2
      refine wpAny_tests_nil ?_
      rw [if_pos rfl]
      refine thnF (pk.run _ sI σI HI _ II qI) fun zk sJ ⟨yk, HJ, IJ, rJ, qJ⟩ => ?_
      refine thnF (pv_.run _ sJ σI HJ _ IJ qJ) fun zv sK ⟨yv, HK, IK, rK, kvs, ks, b, ey, hb, hD, hz, nx⟩ => ?_
      subst ey
      obtain rfl : zk = Value.ref b := rJ
      exact dictSetT (X := X.blk sC HC scope ce fp) hu IK hD hb hz rK fun sL IL => again IL nx
  exact codeAny_compStart_dict loop (T.self X.A 0 _ _ _ stE loop)
theorem pe_dcT {ek ev tg iter : Expr} {scope : Scope} {own : List (Str × Nat)} {pos : Pos} {wi : TI} {g : TG} {tk tv : TE} (hu : X.A.units < cLine) (calm : X.calm = true) (ndN : X.N.Nodup) (pi : PI X tg iter wi) (blk : BlkOk X.N X.env.scope scope own)
    (pgs : ∀ (s : Shared) (H : Hp) (C : Addr) (cl : List (Str × Addr)) (fp : List Addr), PG (X.blk s H scope (compEnvC scope cl C X.env) fp) tg g)
    (pks : ∀ (s : Shared) (H : Hp) (C : Addr) (cl : List (Str × Addr)) (fp : List Addr), PE (X.blk s H scope (compEnvC scope cl C X.env) fp) ek tk)
    (pvs : ∀ (s : Shared) (H : Hp) (C : Addr) (cl : List (Str × Addr)) (fp : List Addr), PE (X.blk s H scope (compEnvC scope cl C X.env) fp) ev tv) (nofold : ∀ x, foldedSetIterable iter X.env x = pure x := by intro _; rfl) :
    PE X (.DictComp ek ev [⟨tg, iter, [], 0⟩] scope pos) (tDcT wi g tk tv (own.map (·.2))) := by
  refine ⟨fun pins s σ H Q I h => ?_⟩
  rw [arm_eval_DictComp]
  refine dcT_run hu calm ndN I pi blk pgs pks pvs nofold h fun D C s' m H' I' q hn f => ⟨m, hn, fun h2 sb => ?_⟩
  obtain ⟨f0, f1, f2, f3, f4, f5⟩ := f
  have I2 := I'.turned (t' := s'.toks) (it := C) (fun b o hb e => (sb.2 b hb).trans e) f0 f1 f3 f4 f5
  exact ⟨.ref D, H', I2, rfl, q⟩
end
end MW
/-! ## W4 -/
namespace MW
open PySem PySem.Spec PyProof.Rows L2
/-! ### a dict whose keys are (n, (n, ..)): ints and a tuple of ints within a tuple -/
abbrev SK : Type := Nat × List Nat
def nk (k : SK) : NestedKey := .tup [.num (k.1 : Int), .tup (k.2.map fun (n : Nat) => NestedKey.num (n : Int))]
theorem nums_inj : ∀ {a b : List Nat}, (a.map fun (n : Nat) => NestedKey.num (n : Int)) = b.map (fun (n : Nat) => NestedKey.num (n : Int)) → a = b
  | [], [], _ => rfl
  | [], _ :: _, h => by cases h
  | _ :: _, [], h => by cases h
  | x :: a, y :: b, h => by
    rw [List.map_cons, List.map_cons, List.cons.injEq] at h
    have e1 : (x : Int) = y := NestedKey.num.inj h.1
    have e2 : x = y := by omega
    rw [e2, nums_inj h.2]
theorem nk_inj {a b : SK} (h : nk a = nk b) : a = b := by
  unfold nk at h
  have h1 := NestedKey.tup.inj h
  rw [List.cons.injEq, List.cons.injEq] at h1
  have e1 : (a.1 : Int) = b.1 := NestedKey.num.inj h1.1
  have e2 : a.1 = b.1 := by omega
  exact Prod.ext e2 (nums_inj (NestedKey.tup.inj h1.2.1))
theorem nums_depth : ∀ l : List Nat, NestedKey.depthAll (l.map fun (n : Nat) => NestedKey.num (n : Int)) = 0
  | [] => rfl
  | a :: l => by
    rw [List.map_cons]
    show max (NestedKey.depth (.num _)) (NestedKey.depthAll _) = 0
    rw [nums_depth l]
    rfl
theorem nk_depth (k : SK) : (nk k).depth ≤ 8 := by
  have h := nums_depth k.2
  show NestedKey.depthAll [.num (k.1 : Int), .tup (k.2.map fun (n : Nat) => NestedKey.num (n : Int))] + 1 ≤ 8
  show max (NestedKey.depth (.num _)) (max (NestedKey.depthAll (k.2.map fun (n : Nat) => NestedKey.num (n : Int)) + 1) 0) + 1 ≤ 8
  rw [h]
  show max 0 _ + 1 ≤ 8
  omega
/-- a nat as a value; a word, a row of numbers -/
def nv (n : Nat) : V := .int (n : Int)
abbrev nvs (l : List Nat) : List V := l.map nv
/-- the tuple at b is the key k -/
def KeyN (H : Hp) (b : Addr) (k : SK) : Prop := ∃ c, H b = some (.tup [nv k.1, .ref c]) ∧ H c = some (.tup (nvs k.2))
def ndO (d : Addr) (es : List DictEntry) : HO := .ext fun h => ∃ o arr ep, h.get? d = some o ∧ o.ExactDict ∧ o.data = .dict arr ep ∧ arr.toList = es
theorem ndO_ok {P : Program} {w : World} {H : Hp} {h : Heap} {d : Addr} {o : Obj} {arr : Array DictEntry} {ep : Nat} (e : h.get? d = some o) (x : o.ExactDict) (hd : o.data = .dict arr ep) : ObjOk P w H h d (ndO d arr.toList) :=
  ⟨⟨o, arr, ep, e, x, hd, rfl⟩, ⟨o, e⟩, fun _ _ ⟨o', arr', ep', e', r⟩ k => ⟨o', arr', ep', k o' e', r⟩⟩
abbrev KN (H : Hp) : List (SK × V) → List (NestedKey × Addr × Value) → Prop := Paired fun p x => x.1 = nk p.1 ∧ KeyN H x.2.1 p.1 ∧ RelV p.2 x.2.2
/-- at d stands a dict with such keys -/
def NdAt (P : Program) (w : World) (H : Hp) (d : Addr) (kvs : List (SK × V)) : Prop := ∃ xs : List (NestedKey × Addr × Value), KN H kvs xs ∧ (xs.map (·.1)).Nodup ∧ (d == sysModules) = false ∧ kvs.length ≤ sizeLine ∧ H d = some (ndO d (xs.map (entryOfKey (nestedKind P w))))
theorem KeyN.keep {H H' : Hp} {b : Addr} {k : SK} (h : KeyN H b k) (t : ∀ a xs, H a = some (.tup xs) → H' a = some (.tup xs)) : KeyN H' b k := let ⟨c, h1, h2⟩ := h; ⟨c, t _ _ h1, t _ _ h2⟩
theorem KN.keep {H H' : Hp} {kvs : List (SK × V)} {xs : List (NestedKey × Addr × Value)} (h : KN H kvs xs) (t : ∀ a ys, H a = some (.tup ys) → H' a = some (.tup ys)) : KN H' kvs xs := Paired.mapP h fun _ _ ⟨z1, z2, z3⟩ => ⟨z1, z2.keep t, z3⟩
theorem NdAt.keep {P : Program} {w : World} {H H' : Hp} {d : Addr} {kvs : List (SK × V)} (h : NdAt P w H d kvs) (t : ∀ a xs, H a = some (.tup xs) → H' a = some (.tup xs)) (e : H' d = H d) : NdAt P w H' d kvs :=
  let ⟨xs, r, n, m, z, q⟩ := h; ⟨xs, r.keep t, n, m, z, e.trans q⟩
theorem KN.val {H : Hp} {kvs : List (SK × V)} {xs : List (NestedKey × Addr × Value)} (r : KN H kvs xs) (k : SK) : RelO (valV kvs k) ((atKey xs (nk k)).map (·.2)) := by
  induction r with
  | nil => exact True.intro
  | @cons p x ps xs h t ih =>
    obtain ⟨h1, _, h3⟩ := h
    by_cases e : p.1 = k
    · have e2 : x.1 = nk k := by rw [h1, e]
      have b : atKey (x :: xs) (nk k) = some x.2 := by simp [atKey, List.find?_cons, e2]
      rw [valV_pos e, b]
      exact h3
    · have e2 : ¬ x.1 = nk k := fun z => e (nk_inj (h1.symm.trans z))
      have b : atKey (x :: xs) (nk k) = atKey xs (nk k) := by simp [atKey, List.find?_cons, e2]
      rw [valV_neg e, b]
      exact ih
theorem KN.put {H : Hp} {kvs : List (SK × V)} {xs : List (NestedKey × Addr × Value)} (r : KN H kvs xs) (k : SK) {b : Addr} {y : V} {u : Value} (hb : KeyN H b k) (ry : RelV y u) : KN H (putK kvs k y) (storedH xs (nk k) b u) := by
  have e : (kvs.any fun kv => decide (kv.1 = k)) = (atKey xs (nk k)).isSome := by
    rw [valV_any, (r.val k).isSome_eq, Option.isSome_map]
  unfold putK storedH
  rw [e]
  by_cases q : (atKey xs (nk k)).isSome = true
  · rw [if_pos q, if_pos q]
    clear e q
    induction r with
    | nil => exact .nil
    | @cons p x ps xs h t ih =>
      rw [List.map_cons, List.map_cons]
      refine .cons ?_ ih
      obtain ⟨h1, h2, h3⟩ := h
      unfold putAt
      by_cases e : p.1 = k
      · rw [if_pos e, if_pos (by rw [h1, e])]
        exact ⟨h1, h2, ry⟩
      · rw [if_neg e, if_neg (fun z => e (nk_inj (h1.symm.trans z)))]
        exact ⟨h1, h2, h3⟩
  · rw [if_neg q, if_neg q]
    exact Paired.snoc r ⟨rfl, hb, ry⟩
theorem all_nums {h : Heap} : ∀ {l : List Nat} {us : List Value}, Vals (nvs l) us → NestedAll h (l.map fun (n : Nat) => NestedKey.num (n : Int)) us
  | [], _, r => by cases r; exact .nil
  | n :: l, _, r => by
    cases r with
    | cons r1 r2 =>
      obtain ⟨t, rfl⟩ := r1
      exact .cons (.int _ t) (all_nums r2)
theorem keyN_is {P : Program} {w : World} {H : Hp} {h : Heap} {b : Addr} {k : SK} (ok : HOk P w H h) (hb : KeyN H b k) : (nestedKind P w).is h (nk k) b := by
  obtain ⟨c, h1, h2⟩ := hb
  obtain ⟨_, us, r, o, e1, e2, n, e3⟩ := (show ObjOk P w H h b (.tup [nv k.1, .ref c]) from ok b _ h1)
  obtain ⟨_, us2, r2, o2, f1, f2, n2, f3⟩ := (show ObjOk P w H h c (.tup (nvs k.2)) from ok c _ h2)
  refine ⟨.tup e1 e2 e3 ?_, nk_depth k⟩
  obtain ⟨u1, u2, rfl, q1, q2⟩ := vals2 r
  obtain ⟨t, rfl⟩ := q1
  cases q2
  exact .cons (.int _ t) (.cons (.tup f1 f2 f3 (all_nums r2)) .nil)
section
variable {X : Cx} {pins : List (Addr × Obj)} {σ : L2.St} {H : Hp} {s : Shared} {d : Addr} {kvs : List (SK × V)}
theorem kn_keys {P : Program} {w : World} {h : Heap} (ok : HOk P w H h) : ∀ {kvs : List (SK × V)} {xs : List (NestedKey × Addr × Value)}, KN H kvs xs → ∀ x ∈ xs, (nestedKind P w).is h x.1 x.2.1
  | _, _, .nil, x, hx => nomatch hx
  | _, _, .cons h t, x, hx => by
    rcases List.mem_cons.mp hx with e | hx
    · subst e
      rw [h.1]
      exact keyN_is ok h.2.1
    · exact kn_keys ok t x hx
theorem ndAt_of (I : L2.Inv X pins σ H s) (h : NdAt X.prog X.w H d kvs) : (d == sysModules) = false ∧ kvs.length ≤ sizeLine ∧ ∃ xs, KN H kvs xs ∧ s.heap.DictOfH (nestedKind X.prog X.w) d xs := by
  obtain ⟨xs, r, n, m, z, q⟩ := h
  obtain ⟨⟨o, arr, ep, e1, e2, e3, e4⟩, _⟩ := I.hok d _ q
  exact ⟨m, z, xs, r, o, arr, ep, e1, e2, e3, e4, kn_keys I.hok r, n⟩
def tNdNew (P : Program) (w : World) : TE := fun _ H Q => ∀ p, H p = none → ∀ H', (∀ c o, H c = some o → H' c = some o) → NdAt P w H' p [] → Q (.ref p) H'
theorem pe_ndNew {pos : Pos} : PE X (.Dict [] [] pos) (tNdNew X.prog X.w) := by
  refine ⟨fun pins s σ H Q I h => wpAny_Dict_empty ?_⟩
  have fr := I.hok.fresh (Nat.le_refl s.heap.objs.size)
  have I1 := I.laid (a := s.heap.objs.size) (o := ndO s.heap.objs.size (#[] : Array DictEntry).toList) (h' := s.heap.push { cls := .type "dict", data := .dict #[] }) (t' := s.toks) (fun _ _ q => Heap.get?_push_of_some _ q) (Nat.le_refl _) (ndO_ok (Heap.get?_push_size _ rfl) ⟨rfl, rfl, rfl⟩ rfl)
  refine ⟨.ref s.heap.objs.size, _, I1, rfl, h _ fr _ (fun c o e => by rw [upd_ne (ne_of_none e fr)]; exact e) ⟨[], .nil, List.nodup_nil, beq_eq_false_iff_ne.mpr (Ne.symm (Nat.ne_of_lt I.big)), Nat.zero_le _, upd_same⟩⟩
/-- k not in d -/
def rNdNot (P : Program) (w : World) : R2 := fun x y H Q => ∃ (b d : Addr) (k : SK) (kvs : List (SK × V)), x = .ref b ∧ y = .ref d ∧ KeyN H b k ∧ NdAt P w H d kvs ∧ Q (.bl (!(valV kvs k).isSome)) H
theorem op_ndNot (hu : X.A.units + 65 < cLine) : OpR X (compareOp .NotIn) (rNdNot X.prog X.w) := by
  intro pins s σ H x y v u Q I rx ry h
  obtain ⟨b, d, k, kvs, rfl, rfl, hb, hd, q⟩ := h
  cases rx
  cases ry
  obtain ⟨m, z, xs, r, dd⟩ := ndAt_of I hd
  have r0 := (r.val k).isSome_eq
  rw [Option.isSome_map] at r0
  refine wpAny_notIn_heap (knd := nestedKind X.prog X.w) (show X.A.units + 1 + 8 < cLine by omega) (keyN_is I.hok hb) m dd ?_
  rw [← r0]
  exact ⟨.bl _, H, I.tok _, rfl, q⟩
/-- d[k] -/
def tNdGet (P : Program) (w : World) (td ty : TE) : TE := fun σ H Q => td σ H fun x H1 => ty σ H1 fun y H2 => ∃ (b d : Addr) (k : SK) (kvs : List (SK × V)) (v : V), x = .ref d ∧ y = .ref b ∧ KeyN H2 b k ∧ NdAt P w H2 d kvs ∧ valV kvs k = some v ∧ Q v H2
theorem pe_ndGet {o i : Expr} {td ty : TE} {pos : Pos} (hu : X.A.units + 65 < cLine) (ho : PE X o td) (hi : PE X i ty) (hs : NoSl i) : PE X (.Subscript o i pos) (tNdGet X.prog X.w td ty) := by
  refine ⟨fun pins s σ H Q I h => ?_⟩
  refine subD_of PySem.F.slot_dict_getitem.lookup hs (thn (ho.run pins s σ H _ I h) fun ov s1 ⟨x, H1, I1, rx, q1⟩ => ?_)
  refine thn (hi.run pins s1 σ H1 _ I1 q1) fun iv s2 ⟨y, H2, I2, ry, b, d, k, kvs, v, ex, ey, hb, hd, hv, q2⟩ => ?_
  subst ex
  subst ey
  obtain rfl : ov = Value.ref d := rx
  obtain rfl : iv = Value.ref b := ry
  obtain ⟨m, z, xs, r, dd⟩ := ndAt_of I2 hd
  obtain ⟨c, hc, rc⟩ := RelO.some_of (v := v) (o := (atKey xs (nk k)).map (·.2)) (by rw [← hv]; exact r.val k)
  obtain ⟨p, hp, hp2⟩ := Option.map_eq_some_iff.mp hc
  refine ⟨dd.typeIs, wpAny_getItem_heap (knd := nestedKind X.prog X.w) (show X.A.units + 1 + 8 < cLine by omega) (keyN_is I2.hok hb) dd hp ?_⟩
  rw [hp2]
  exact ⟨v, H2, I2.tok _, rc, q2⟩
/-- d[k] = v -/
def tNdPut (P : Program) (w : World) : TSet := fun o i v H Q => ∃ (b d : Addr) (k : SK) (kvs : List (SK × V)), o = .ref d ∧ i = .ref b ∧ KeyN H b k ∧ NdAt P w H d kvs ∧ kvs.length < sizeLine ∧ ∀ H', (∀ c u, c ≠ d → H c = some u → H' c = some u) → (∀ c, c ≠ d → H c = none → H' c = none) → NdAt P w H' d (putK kvs k v) → Q H'
theorem set_nd (hu : X.A.units + 65 < cLine) : PSet X (tNdPut X.prog X.w) := by
  intro pins s σ H o i v ov iv uv Q I ro ri rv h
  obtain ⟨b, d, k, kvs, rfl, rfl, hb, hd, hl, q⟩ := h
  cases ro
  cases ri
  obtain ⟨m, z, xs, r, dd⟩ := ndAt_of I hd
  obtain ⟨_, _, _, _, _, hd0⟩ := id hd
  have hxl := Paired.length r
  refine wpAny_setItem_heap (hsz := by omega) (knd := nestedKind X.prog X.w) (show X.A.units + 1 + 8 < cLine by omega) (keyN_is I.hok hb) dd fun h' hm hs => ?_
  obtain ⟨o', arr, ep, e1, e2, e3, e4, _, e5⟩ := hm
  have nt : ∀ a ys, H a = some (.tup ys) → a ≠ d := fun a ys e q => by
    rw [q, hd0] at e
    cases e
  have I1 := d_write (t' := s.toks + (nestedKind X.prog X.w).draws (nk k)) I (by rw [hd0]; trivial) hs ⟨o', e1⟩ (ndO_ok (P := X.prog) (w := X.w) (H := upd H d (ndO d arr.toList)) e1 e2 e3)
  have hl2 := length_putK kvs k v
  refine ⟨_, I1, q _ (fun c u hc e => by rw [upd_ne hc]; exact e) (fun c hc e => by rw [upd_ne hc]; exact e) ⟨storedH xs (nk k) b uv, (r.put k hb rv).keep fun a ys e => by rw [upd_ne (nt a ys e)]; exact e, e5, m, by omega, ?_⟩⟩
  rw [upd_same, e4]
end
end MW
/-! ## W5 -/
namespace MW
open PySem PySem.Spec PyProof.Rows L2
/-! ### the text by places -/
def top (i : Nat) : Stmt := PySem.Challenge.pw_maieutic_k72_whole_changed_machines.main.body.getD i (.Pass ⟨0, 0, 0, 0⟩)
abbrev s_Halving_init : Stmt := inClass (top 9) 0
abbrev s_Halving_place : Stmt := inClass (top 9) 1
abbrev s_Halving_tell : Stmt := inClass (top 9) 2
abbrev s_Halving_found : Stmt := inClass (top 9) 3
abbrev s_refined : Stmt := top 11
abbrev s_classes : Stmt := top 12
abbrev s_met_states : Stmt := top 13
abbrev s_least : Stmt := top 14
abbrev s_is_machine : Stmt := top 21
abbrev s_check_machine : Stmt := top 22
abbrev s_Table_init : Stmt := inClass (top 30) 0
abbrev s_Table_state_words : Stmt := inClass (top 30) 1
abbrev s_Table_further_rows : Stmt := inClass (top 30) 3
abbrev s_Table_all_wanted : Stmt := inClass (top 30) 5
abbrev s_Table_outputs_of : Stmt := inClass (top 30) 6
abbrev s_Table_numbers : Stmt := inClass (top 30) 7
abbrev s_Table_extend : Stmt := inClass (top 30) 8
abbrev s_Table_add_column : Stmt := inClass (top 30) 9
abbrev s_Table_machine : Stmt := inClass (top 30) 10
abbrev s_Table_mistake : Stmt := inClass (top 30) 11
abbrev s_is_word_asker : Stmt := top 33
abbrev s_digits_of : Stmt := top 35
abbrev s_read_known : Stmt := top 36
abbrev s_Asker_init : Stmt := inClass (top 37) 0
abbrev s_Asker_step : Stmt := inClass (top 37) 1
abbrev s_Asker_need : Stmt := inClass (top 37) 2
abbrev s_Asker_answer : Stmt := inClass (top 37) 3
abbrev s_Asker_accept : Stmt := inClass (top 37) 4
abbrev s_Asker_show : Stmt := inClass (top 37) 5
abbrev s_Asker_report : Stmt := inClass (top 37) 6
abbrev s_Asker__next_step : Stmt := inClass (top 37) 9
abbrev s_Asker__fill : Stmt := inClass (top 37) 10
abbrev s_Asker__judge : Stmt := inClass (top 37) 11
abbrev s_Asker__path : Stmt := inClass (top 37) 12
abbrev s_Asker__begin : Stmt := inClass (top 37) 13
abbrev s_Asker__look : Stmt := inClass (top 37) 14
abbrev s_ChangedAsker_init : Stmt := inClass (top 39) 0
abbrev s_ChangedAsker_step : Stmt := inClass (top 39) 1
abbrev s_ChangedAsker_answer : Stmt := inClass (top 39) 2
abbrev s_ChangedAsker_accept : Stmt := inClass (top 39) 3
abbrev s_ChangedAsker_show : Stmt := inClass (top 39) 4
abbrev s_ChangedAsker_report : Stmt := inClass (top 39) 5
abbrev s_search : Stmt := top 41
abbrev s_check_kind : Stmt := top 42
abbrev s_first_difference : Stmt := top 43
abbrev s_Choices_init : Stmt := inClass (top 46) 0
abbrev s_Choices__extend : Stmt := inClass (top 46) 1
abbrev s_Choices_words : Stmt := inClass (top 46) 2
abbrev s_Choices__find : Stmt := inClass (top 46) 3
abbrev s_Honest_init : Stmt := inClass (top 47) 0
abbrev s_Honest__next_pick : Stmt := inClass (top 47) 2
abbrev s_Honest_judge : Stmt := inClass (top 47) 3
abbrev s_law_row : Stmt := top 49
abbrev s_law_at : Stmt := top 50
abbrev s_law_machine : Stmt := top 51
abbrev s_law_state : Stmt := top 52
abbrev s_law_output : Stmt := top 53
abbrev s_law_classes : Stmt := top 54
abbrev s_law_least : Stmt := top 55
abbrev s_law_digits : Stmt := top 57
abbrev s_law_bound : Stmt := top 58
abbrev s_law_was : Stmt := top 59
abbrev s_law : Stmt := top 60

/-- the classes' addresses -/
structure Cs where
  Halving : Addr
  Table : Addr
  Asker : Addr
  ChangedAsker : Addr
  Choices : Addr
  Honest : Addr
  Alike : Addr
abbrev fl_Halving : List Str := ["_low", "_high"]
abbrev fl_Table : List Str := ["letters", "_states", "_columns", "_rows"]
abbrev fl_Asker : List Str := ["letters", "outs", "most", "_given", "_known", "_replies", "_counts", "_table", "_machine", "_shown", "_search", "_queue", "_step"]
abbrev fl_ChangedAsker : List Str := ["_asker", "_before", "_first", "_longest"]
abbrev fl_Choices : List Str := ["_first", "_second", "_leading"]
abbrev fl_Honest : List Str := ["_machine", "_picks", "_used"]
structure Tx (K : PySem.W.Frag) (mg : Str → Option Value) (c : Cs) : Prop where
  b_len : mg "len" = none
  b_range : mg "range" = none
  b_enumerate : mg "enumerate" = none
  b_tuple : mg "tuple" = none
  b_list : mg "list" = none
  b_reversed : mg "reversed" = none
  b_dict : mg "dict" = none
  b_all : mg "all" = none
  b_any : mg "any" = none
  b_zip : mg "zip" = none
  b_int : mg "int" = none
  b_min : mg "min" = none
  b_max : mg "max" = none
  b_sum : mg "sum" = none
  b_abs : mg "abs" = none
  b_str : mg "str" = none
  c_MAX_LETTERS : ∃ t, mg "MAX_LETTERS" = some (.int 4 t)
  c_MAX_OUTS : ∃ t, mg "MAX_OUTS" = some (.int 6 t)
  c_MAX_STATES : ∃ t, mg "MAX_STATES" = some (.int 30 t)
  c_MAX_WORD : ∃ t, mg "MAX_WORD" = some (.int 400 t)
  c_MAX_SHOWN : ∃ t, mg "MAX_SHOWN" = some (.int 300 t)
  c_MAX_KNOWN : ∃ t, mg "MAX_KNOWN" = some (.int 400 t)
  c_MAX_CHOICES : ∃ t, mg "MAX_CHOICES" = some (.int 60 t)
  k_Halving : Cls K c.Halving
  n_Halving : ∀ f ∈ fl_Halving, NoAttr K c.Halving f
  k_Table : Cls K c.Table
  n_Table : ∀ f ∈ fl_Table, NoAttr K c.Table f
  k_Asker : Cls K c.Asker
  n_Asker : ∀ f ∈ fl_Asker, NoAttr K c.Asker f
  k_ChangedAsker : Cls K c.ChangedAsker
  n_ChangedAsker : ∀ f ∈ fl_ChangedAsker, NoAttr K c.ChangedAsker f
  k_Choices : Cls K c.Choices
  n_Choices : ∀ f ∈ fl_Choices, NoAttr K c.Choices f
  k_Honest : Cls K c.Honest
  n_Honest : ∀ f ∈ fl_Honest, NoAttr K c.Honest f
abbrev FnP (K : PySem.W.Frag) (x qual : Str) (st : Stmt) (f : Addr) (fd : FuncData) : Prop := FunD K x qual (defArgs st) (defBody st) (defScope st) [] [] f fd
/-! ### what a caller knows of a def, a method, a class -/
structure Dfn (P : Program) (w : World) (K : PySem.W.Frag) (mg : Str → Option Value) (base : Heap) (CX : CXT) (k : Nat) (x : Str) (ps : List Str) (sp : Sp) : Prop where
  ex : ∃ f fd, mg x = some (.ref f) ∧ PySem.W.keepIn K (.ref f) = true ∧ Binds K fd ps [] ∧ FnOk P w K mg base CX k f fd ps sp
structure Mtd (P : Program) (w : World) (K : PySem.W.Frag) (mg : Str → Option Value) (base : Heap) (CX : CXT) (k : Nat) (C : Addr) (m : Str) (ps : List Str) (sp : Sp) : Prop where
  ex : ∃ f fd, Meth K C m f ∧ Binds K fd ps [] ∧ FnOk P w K mg base CX k f fd ps sp
structure Mkd (P : Program) (w : World) (K : PySem.W.Frag) (mg : Str → Option Value) (base : Heap) (CX : CXT) (k : Nat) (x : Str) (C : Addr) (ps : List Str) (sp : Sp) : Prop where
  ex : ∃ f fd, mg x = some (.ref C) ∧ Mk K C f ∧ Binds K fd ps [] ∧ FnOk P w K mg base CX k f fd ps sp
section
variable {X : Cx} {k : Nat} {x m : Str} {ps : List Str} {sp : Sp} {o e : Expr} {es : List Expr} {ta : TE} {t : TA} {p pos apos : Pos} {C : Addr} {pl : Sem Bool}
theorem pe_gi {i : Int} (hg : Gl X x) (h : ∃ t, X.mg x = some (.int i t)) (hd : (x == ("__debug__" : Str)) = false := by decide) : PE X (.Name x pos) (tC (.int i)) := by
  obtain ⟨t, h⟩ := h
  exact pe_glob hg h ⟨_, rfl⟩ hd
theorem pe_c (D : Dfn X.prog X.w X.K X.mg X.base CX0 k x ps sp) (hr : Room k X.A) (ha : PA X (e :: es) t) (hg : Gl X x := by rfl) (hdb : (x == ("__debug__" : Str)) = false := by decide)
    (he : starEach (e :: es) X.env = (false, eval e X.env) :: starEach es X.env := by rfl) (hpl : (backTo pos (starEach es X.env)).any (·.1) = false := by rfl) : PE X (.Call (.Name x p) (e :: es) [] pos) (tCall sp [] E0 t) := by
  obtain ⟨f, fd, h1, h2, h3, h4⟩ := D.ex
  exact pe_call h4 hr hg h1 h2 h3 .nil pass0 ha hdb he hpl
theorem pe_m (he : PE X o ta) (c : Cls X.K C) (D : Mtd X.prog X.w X.K X.mg X.base CX0 k C m ps sp) (hr : Room k X.A) (ha : PA X (e :: es) t)
    (hst : starEach (e :: es) X.env = (false, eval e X.env) :: starEach es X.env := by rfl) (hpl : (backTo pos (starEach es X.env)).any (·.1) = false := by rfl)
    (ht : eval (.Call (.Attribute o m apos) (e :: es) [] pos) X.env = (do
      let ov ← eval o X.env
      standAt apos.atName
      let (f, first) ← holding [ov] (getMethod ov m pl)
      callWith pos f first (backTo pos (starEach (e :: es) X.env)) (backToKw pos (keywordEach [] X.env))) := by rfl) : PE X (.Call (.Attribute o m apos) (e :: es) [] pos) (tMeth C m sp [] E0 ta t) := by
  obtain ⟨f, fd, h1, h2, h3⟩ := D.ex
  exact pe_meth he c h1 h3 hr h2 .nil pass0 ha hst hpl ht
theorem pe_m0 (he : PE X o ta) (c : Cls X.K C) (D : Mtd X.prog X.w X.K X.mg X.base CX0 k C m ps sp) (hr : Room k X.A)
    (ht : eval (.Call (.Attribute o m apos) [] [] pos) X.env = (do
      let ov ← eval o X.env
      standAt apos.atName
      let (f, first) ← holding [ov] (getMethod ov m pl)
      callWith pos f first (backTo pos (starEach [] X.env)) (backToKw pos (keywordEach [] X.env))) := by rfl) : PE X (.Call (.Attribute o m apos) [] [] pos) (tMeth C m sp [] E0 ta tNil) := by
  obtain ⟨f, fd, h1, h2, h3⟩ := D.ex
  exact pe_meth0 he c h1 h3 hr h2 .nil pass0 ht
theorem pe_mk (D : Mkd X.prog X.w X.K X.mg X.base CX0 k x C ps sp) (hr : Room (k + 1) X.A) (ha : PA X (e :: es) t) (hg : Gl X x := by rfl) (hdb : (x == ("__debug__" : Str)) = false := by decide)
    (he : starEach (e :: es) X.env = (false, eval e X.env) :: starEach es X.env := by rfl) (hpl : (backTo pos (starEach es X.env)).any (·.1) = false := by rfl) : PE X (.Call (.Name x p) (e :: es) [] pos) (tMake C sp [] E0 t) := by
  obtain ⟨f, fd, h1, h2, h3, h4⟩ := D.ex
  exact pe_make h2 h4 hr hg h1 h3 .nil pass0 ha hdb he hpl
end
def rTupOf (K : PySem.W.Frag) : List V → Hp → VK → Prop := fun xs H Q => ∃ p ys, xs = [.ref p] ∧ ((SqL K H p ys ∧ ∀ l, H l = none → Q (.ref l) (upd H l (.tup ys))) ∨ (SqT K H p ys ∧ Q (.ref p) H))
def rListOf (K : PySem.W.Frag) : List V → Hp → VK → Prop := fun xs H Q => ∃ p ys, xs = [.ref p] ∧ (SqL K H p ys ∨ SqT K H p ys) ∧ ∀ l, H l = none → Q (.ref l) (upd H l (.lst ys))
def rLenQ (K : PySem.W.Frag) : List V → Hp → VK → Prop := fun xs H Q => ∃ p ys, xs = [.ref p] ∧ (SqL K H p ys ∨ SqT K H p ys) ∧ Q (.int ys.length) H
def rStrI : List V → Hp → VK → Prop := fun xs H Q => ∃ i : Int, xs = [.int i] ∧ i.natAbs.log2 < 1920 ∧ Q (.str (toString i)) H
def rInt1 : List V → Hp → VK → Prop := fun xs H Q => (∃ i, xs = [.int i] ∧ Q (.int i) H) ∨ ∃ k, xs = [.bl k] ∧ Q (.int (if k then 1 else 0)) H
def rTupIdx (K : PySem.W.Frag) : V → List V → Hp → VK → Prop := fun x xs H Q => ∃ (p : Addr) (ns : List Int) (n : Int) (j : Nat), x = .ref p ∧ xs = [.int n] ∧ SqT K H p (ns.map V.int) ∧ ns[j]? = some n ∧ (∀ m, m < j → ns[m]? ≠ some n) ∧ Q (.int (j : Nat)) H
theorem hu65 {A : Around} {k : Nat} (hr : Room k A) : A.units + 65 < cLine := by have := hr.un; omega
abbrev N_Halving_init : List Str := ["self", "length"]
abbrev p_Halving_init : List Str := ["self", "length"]
theorem sc_Halving_init : FnScope N_Halving_init p_Halving_init (defScope s_Halving_init) := ⟨rfl, rfl, rfl, by decide +kernel, rfl, by decide +kernel, by decide +kernel⟩
abbrev N_Halving_place : List Str := ["self"]
abbrev p_Halving_place : List Str := ["self"]
theorem sc_Halving_place : FnScope N_Halving_place p_Halving_place (defScope s_Halving_place) := ⟨rfl, rfl, rfl, by decide +kernel, rfl, by decide +kernel, by decide +kernel⟩
abbrev N_Halving_tell : List Str := ["self", "differs", "place"]
abbrev p_Halving_tell : List Str := ["self", "differs"]
theorem sc_Halving_tell : FnScope N_Halving_tell p_Halving_tell (defScope s_Halving_tell) := ⟨rfl, rfl, rfl, by decide +kernel, rfl, by decide +kernel, by decide +kernel⟩
abbrev N_Halving_found : List Str := ["self"]
abbrev p_Halving_found : List Str := ["self"]
theorem sc_Halving_found : FnScope N_Halving_found p_Halving_found (defScope s_Halving_found) := ⟨rfl, rfl, rfl, by decide +kernel, rfl, by decide +kernel, by decide +kernel⟩
abbrev N_refined : List Str := ["machine", "groups", "letters", "found", "result", "state", "row", "sign", "letter"]
abbrev p_refined : List Str := ["machine", "groups"]
theorem sc_refined : FnScope N_refined p_refined (defScope s_refined) := ⟨rfl, rfl, rfl, by decide +kernel, rfl, by decide +kernel, by decide +kernel⟩
abbrev N_classes : List Str := ["machine", "outputs", "groups", "_", "output"]
abbrev p_classes : List Str := ["machine"]
theorem sc_classes : FnScope N_classes p_classes (defScope s_classes) := ⟨rfl, rfl, rfl, by decide +kernel, rfl, by decide +kernel, by decide +kernel⟩
abbrev N_met_states : List Str := ["machine", "groups", "order", "at", "state"]
abbrev p_met_states : List Str := ["machine", "groups"]
theorem sc_met_states : FnScope N_met_states p_met_states (defScope s_met_states) := ⟨rfl, rfl, rfl, by decide +kernel, rfl, by decide +kernel, by decide +kernel⟩
abbrev N_least : List Str := ["machine", "letters", "outs", "moves", "outputs", "groups", "order", "new_moves", "old", "state"]
abbrev p_least : List Str := ["machine"]
theorem sc_least : FnScope N_least p_least (defScope s_least) := ⟨rfl, rfl, rfl, by decide +kernel, rfl, by decide +kernel, by decide +kernel⟩
abbrev N_is_machine : List Str := ["machine", "letters", "outs", "moves", "outputs", "states", "row", "output", "state"]
abbrev p_is_machine : List Str := ["machine"]
theorem sc_is_machine : FnScope N_is_machine p_is_machine (defScope s_is_machine) := ⟨rfl, rfl, rfl, by decide +kernel, rfl, by decide +kernel, by decide +kernel⟩
abbrev N_check_machine : List Str := ["machine"]
abbrev p_check_machine : List Str := ["machine"]
theorem sc_check_machine : FnScope N_check_machine p_check_machine (defScope s_check_machine) := ⟨rfl, rfl, rfl, by decide +kernel, rfl, by decide +kernel, by decide +kernel⟩
abbrev N_Table_init : List Str := ["self", "letters"]
abbrev p_Table_init : List Str := ["self", "letters"]
theorem sc_Table_init : FnScope N_Table_init p_Table_init (defScope s_Table_init) := ⟨rfl, rfl, rfl, by decide +kernel, rfl, by decide +kernel, by decide +kernel⟩
abbrev N_Table_state_words : List Str := ["self", "word"]
abbrev p_Table_state_words : List Str := ["self"]
theorem sc_Table_state_words : FnScope N_Table_state_words p_Table_state_words (defScope s_Table_state_words) := ⟨rfl, rfl, rfl, by decide +kernel, rfl, by decide +kernel, by decide +kernel⟩
abbrev N_Table_further_rows : List Str := ["self", "rows", "word", "letter", "row"]
abbrev p_Table_further_rows : List Str := ["self"]
theorem sc_Table_further_rows : FnScope N_Table_further_rows p_Table_further_rows (defScope s_Table_further_rows) := ⟨rfl, rfl, rfl, by decide +kernel, rfl, by decide +kernel, by decide +kernel⟩
abbrev N_Table_all_wanted : List Str := ["self", "known", "found", "row", "column", "word"]
abbrev p_Table_all_wanted : List Str := ["self", "known"]
theorem sc_Table_all_wanted : FnScope N_Table_all_wanted p_Table_all_wanted (defScope s_Table_all_wanted) := ⟨rfl, rfl, rfl, by decide +kernel, rfl, by decide +kernel, by decide +kernel⟩
abbrev N_Table_outputs_of : List Str := ["self", "row", "known", "column"]
abbrev p_Table_outputs_of : List Str := ["self", "row", "known"]
theorem sc_Table_outputs_of : FnScope N_Table_outputs_of p_Table_outputs_of (defScope s_Table_outputs_of) := ⟨rfl, rfl, rfl, by decide +kernel, rfl, by decide +kernel, by decide +kernel⟩
abbrev N_Table_numbers : List Str := ["self", "known", "found", "at", "word"]
abbrev p_Table_numbers : List Str := ["self", "known"]
theorem sc_Table_numbers : FnScope N_Table_numbers p_Table_numbers (defScope s_Table_numbers) := ⟨rfl, rfl, rfl, by decide +kernel, rfl, by decide +kernel, by decide +kernel⟩
abbrev N_Table_extend : List Str := ["self", "known", "numbers", "row"]
abbrev p_Table_extend : List Str := ["self", "known"]
theorem sc_Table_extend : FnScope N_Table_extend p_Table_extend (defScope s_Table_extend) := ⟨rfl, rfl, rfl, by decide +kernel, rfl, by decide +kernel, by decide +kernel⟩
abbrev N_Table_add_column : List Str := ["self", "word", "column"]
abbrev p_Table_add_column : List Str := ["self", "word"]
theorem sc_Table_add_column : FnScope N_Table_add_column p_Table_add_column (defScope s_Table_add_column) := ⟨rfl, rfl, rfl, by decide +kernel, rfl, by decide +kernel, by decide +kernel⟩
abbrev N_Table_machine : List Str := ["self", "outs", "known", "numbers", "moves", "word", "nexts", "letter", "outputs"]
abbrev p_Table_machine : List Str := ["self", "outs", "known"]
theorem sc_Table_machine : FnScope N_Table_machine p_Table_machine (defScope s_Table_machine) := ⟨rfl, rfl, rfl, by decide +kernel, rfl, by decide +kernel, by decide +kernel⟩
abbrev N_Table_mistake : List Str := ["self", "outs", "known", "machine", "at", "word", "column", "state", "letter"]
abbrev p_Table_mistake : List Str := ["self", "outs", "known"]
theorem sc_Table_mistake : FnScope N_Table_mistake p_Table_mistake (defScope s_Table_mistake) := ⟨rfl, rfl, rfl, by decide +kernel, rfl, by decide +kernel, by decide +kernel⟩
abbrev N_is_word_asker : List Str := ["word", "letters", "longest", "letter"]
abbrev p_is_word_asker : List Str := ["word", "letters", "longest"]
theorem sc_is_word_asker : FnScope N_is_word_asker p_is_word_asker (defScope s_is_word_asker) := ⟨rfl, rfl, rfl, by decide +kernel, rfl, by decide +kernel, by decide +kernel⟩
abbrev N_digits_of : List Str := ["word", "letter"]
abbrev p_digits_of : List Str := ["word"]
theorem sc_digits_of : FnScope N_digits_of p_digits_of (defScope s_digits_of) := ⟨rfl, rfl, rfl, by decide +kernel, rfl, by decide +kernel, by decide +kernel⟩
abbrev N_read_known : List Str := ["letters", "outs", "known", "word", "output", "found"]
abbrev p_read_known : List Str := ["letters", "outs", "known"]
theorem sc_read_known : FnScope N_read_known p_read_known (defScope s_read_known) := ⟨rfl, rfl, rfl, by decide +kernel, rfl, by decide +kernel, by decide +kernel⟩
abbrev N_Asker_init : List Str := ["self", "letters", "outs", "most", "known"]
abbrev p_Asker_init : List Str := ["self", "letters", "outs", "most", "known"]
theorem sc_Asker_init : FnScope N_Asker_init p_Asker_init (defScope s_Asker_init) := ⟨rfl, rfl, rfl, by decide +kernel, rfl, by decide +kernel, by decide +kernel⟩
abbrev N_Asker_step : List Str := ["self"]
abbrev p_Asker_step : List Str := ["self"]
theorem sc_Asker_step : FnScope N_Asker_step p_Asker_step (defScope s_Asker_step) := ⟨rfl, rfl, rfl, by decide +kernel, rfl, by decide +kernel, by decide +kernel⟩
abbrev N_Asker_need : List Str := ["self", "kind"]
abbrev p_Asker_need : List Str := ["self", "kind"]
theorem sc_Asker_need : FnScope N_Asker_need p_Asker_need (defScope s_Asker_need) := ⟨rfl, rfl, rfl, by decide +kernel, rfl, by decide +kernel, by decide +kernel⟩
abbrev N_Asker_answer : List Str := ["self", "output", "word"]
abbrev p_Asker_answer : List Str := ["self", "output"]
theorem sc_Asker_answer : FnScope N_Asker_answer p_Asker_answer (defScope s_Asker_answer) := ⟨rfl, rfl, rfl, by decide +kernel, rfl, by decide +kernel, by decide +kernel⟩
abbrev N_Asker_accept : List Str := ["self"]
abbrev p_Asker_accept : List Str := ["self"]
theorem sc_Asker_accept : FnScope N_Asker_accept p_Asker_accept (defScope s_Asker_accept) := ⟨rfl, rfl, rfl, by decide +kernel, rfl, by decide +kernel, by decide +kernel⟩
abbrev N_Asker_show : List Str := ["self", "word"]
abbrev p_Asker_show : List Str := ["self", "word"]
theorem sc_Asker_show : FnScope N_Asker_show p_Asker_show (defScope s_Asker_show) := ⟨rfl, rfl, rfl, by decide +kernel, rfl, by decide +kernel, by decide +kernel⟩
abbrev N_Asker_report : List Str := ["self"]
abbrev p_Asker_report : List Str := ["self"]
theorem sc_Asker_report : FnScope N_Asker_report p_Asker_report (defScope s_Asker_report) := ⟨rfl, rfl, rfl, by decide +kernel, rfl, by decide +kernel, by decide +kernel⟩
abbrev N_Asker__next_step : List Str := ["self", "step"]
abbrev p_Asker__next_step : List Str := ["self"]
theorem sc_Asker__next_step : FnScope N_Asker__next_step p_Asker__next_step (defScope s_Asker__next_step) := ⟨rfl, rfl, rfl, by decide +kernel, rfl, by decide +kernel, by decide +kernel⟩
abbrev N_Asker__fill : List Str := ["self", "word", "mistake", "at"]
abbrev p_Asker__fill : List Str := ["self"]
theorem sc_Asker__fill : FnScope N_Asker__fill p_Asker__fill (defScope s_Asker__fill) := ⟨rfl, rfl, rfl, by decide +kernel, rfl, by decide +kernel, by decide +kernel⟩
abbrev N_Asker__judge : List Str := ["self", "word", "state"]
abbrev p_Asker__judge : List Str := ["self"]
theorem sc_Asker__judge : FnScope N_Asker__judge p_Asker__judge (defScope s_Asker__judge) := ⟨rfl, rfl, rfl, by decide +kernel, rfl, by decide +kernel, by decide +kernel⟩
abbrev N_Asker__path : List Str := ["self", "state", "word", "path", "letter"]
abbrev p_Asker__path : List Str := ["self", "state", "word"]
theorem sc_Asker__path : FnScope N_Asker__path p_Asker__path (defScope s_Asker__path) := ⟨rfl, rfl, rfl, by decide +kernel, rfl, by decide +kernel, by decide +kernel⟩
abbrev N_Asker__begin : List Str := ["self", "state", "word", "path", "words", "places", "one", "at"]
abbrev p_Asker__begin : List Str := ["self", "state", "word"]
theorem sc_Asker__begin : FnScope N_Asker__begin p_Asker__begin (defScope s_Asker__begin) := ⟨rfl, rfl, rfl, by decide +kernel, rfl, by decide +kernel, by decide +kernel⟩
abbrev N_Asker__look : List Str := ["self", "halving", "places", "output", "word", "place"]
abbrev p_Asker__look : List Str := ["self"]
theorem sc_Asker__look : FnScope N_Asker__look p_Asker__look (defScope s_Asker__look) := ⟨rfl, rfl, rfl, by decide +kernel, rfl, by decide +kernel, by decide +kernel⟩
abbrev N_ChangedAsker_init : List Str := ["self", "machine", "most"]
abbrev p_ChangedAsker_init : List Str := ["self", "machine", "most"]
theorem sc_ChangedAsker_init : FnScope N_ChangedAsker_init p_ChangedAsker_init (defScope s_ChangedAsker_init) := ⟨rfl, rfl, rfl, by decide +kernel, rfl, by decide +kernel, by decide +kernel⟩
abbrev N_ChangedAsker_step : List Str := ["self"]
abbrev p_ChangedAsker_step : List Str := ["self"]
theorem sc_ChangedAsker_step : FnScope N_ChangedAsker_step p_ChangedAsker_step (defScope s_ChangedAsker_step) := ⟨rfl, rfl, rfl, by decide +kernel, rfl, by decide +kernel, by decide +kernel⟩
abbrev N_ChangedAsker_answer : List Str := ["self", "output"]
abbrev p_ChangedAsker_answer : List Str := ["self", "output"]
theorem sc_ChangedAsker_answer : FnScope N_ChangedAsker_answer p_ChangedAsker_answer (defScope s_ChangedAsker_answer) := ⟨rfl, rfl, rfl, by decide +kernel, rfl, by decide +kernel, by decide +kernel⟩
abbrev N_ChangedAsker_accept : List Str := ["self"]
abbrev p_ChangedAsker_accept : List Str := ["self"]
theorem sc_ChangedAsker_accept : FnScope N_ChangedAsker_accept p_ChangedAsker_accept (defScope s_ChangedAsker_accept) := ⟨rfl, rfl, rfl, by decide +kernel, rfl, by decide +kernel, by decide +kernel⟩
abbrev N_ChangedAsker_show : List Str := ["self", "word", "letters", "letter"]
abbrev p_ChangedAsker_show : List Str := ["self", "word"]
theorem sc_ChangedAsker_show : FnScope N_ChangedAsker_show p_ChangedAsker_show (defScope s_ChangedAsker_show) := ⟨rfl, rfl, rfl, by decide +kernel, rfl, by decide +kernel, by decide +kernel⟩
abbrev N_ChangedAsker_report : List Str := ["self", "told"]
abbrev p_ChangedAsker_report : List Str := ["self"]
theorem sc_ChangedAsker_report : FnScope N_ChangedAsker_report p_ChangedAsker_report (defScope s_ChangedAsker_report) := ⟨rfl, rfl, rfl, by decide +kernel, rfl, by decide +kernel, by decide +kernel⟩
abbrev N_search : List Str := ["first", "second", "state", "other", "rows", "seen", "at", "word", "letter", "pair"]
abbrev p_search : List Str := ["first", "second", "state", "other"]
theorem sc_search : FnScope N_search p_search (defScope s_search) := ⟨rfl, rfl, rfl, by decide +kernel, rfl, by decide +kernel, by decide +kernel⟩
abbrev N_check_kind : List Str := ["first", "second"]
abbrev p_check_kind : List Str := ["first", "second"]
theorem sc_check_kind : FnScope N_check_kind p_check_kind (defScope s_check_kind) := ⟨rfl, rfl, rfl, by decide +kernel, rfl, by decide +kernel, by decide +kernel⟩
abbrev N_first_difference : List Str := ["first", "second", "word"]
abbrev p_first_difference : List Str := ["first", "second"]
theorem sc_first_difference : FnScope N_first_difference p_first_difference (defScope s_first_difference) := ⟨rfl, rfl, rfl, by decide +kernel, rfl, by decide +kernel, by decide +kernel⟩
abbrev N_Choices_init : List Str := ["self", "first", "second", "pairs", "s", "t", "pair"]
abbrev p_Choices_init : List Str := ["self", "first", "second"]
theorem sc_Choices_init : FnScope N_Choices_init p_Choices_init (defScope s_Choices_init) := ⟨rfl, rfl, rfl, by decide +kernel, rfl, by decide +kernel, by decide +kernel⟩
abbrev N_Choices__extend : List Str := ["self", "last", "following", "s", "t", "moves", "p", "q"]
abbrev p_Choices__extend : List Str := ["self"]
theorem sc_Choices__extend : FnScope N_Choices__extend p_Choices__extend (defScope s_Choices__extend) := ⟨rfl, rfl, rfl, by decide +kernel, rfl, by decide +kernel, by decide +kernel⟩
abbrev N_Choices_words : List Str := ["self", "length", "most", "found"]
abbrev p_Choices_words : List Str := ["self", "length", "most"]
theorem sc_Choices_words : FnScope N_Choices_words p_Choices_words (defScope s_Choices_words) := ⟨rfl, rfl, rfl, by decide +kernel, rfl, by decide +kernel, by decide +kernel⟩
abbrev N_Choices__find : List Str := ["self", "word", "pair", "length", "found", "most", "letter", "s", "t"]
abbrev p_Choices__find : List Str := ["self", "word", "pair", "length", "found", "most"]
theorem sc_Choices__find : FnScope N_Choices__find p_Choices__find (defScope s_Choices__find) := ⟨rfl, rfl, rfl, by decide +kernel, rfl, by decide +kernel, by decide +kernel⟩
abbrev N_Honest_init : List Str := ["self", "machine", "picks"]
abbrev p_Honest_init : List Str := ["self", "machine", "picks"]
theorem sc_Honest_init : FnScope N_Honest_init p_Honest_init (defScope s_Honest_init) := ⟨rfl, rfl, rfl, by decide +kernel, rfl, by decide +kernel, by decide +kernel⟩
abbrev N_Honest__next_pick : List Str := ["self", "pick"]
abbrev p_Honest__next_pick : List Str := ["self"]
theorem sc_Honest__next_pick : FnScope N_Honest__next_pick p_Honest__next_pick (defScope s_Honest__next_pick) := ⟨rfl, rfl, rfl, by decide +kernel, rfl, by decide +kernel, by decide +kernel⟩
abbrev N_Honest_judge : List Str := ["self", "proposal", "word", "choices", "words", "more"]
abbrev p_Honest_judge : List Str := ["self", "proposal"]
theorem sc_Honest_judge : FnScope N_Honest_judge p_Honest_judge (defScope s_Honest_judge) := ⟨rfl, rfl, rfl, by decide +kernel, rfl, by decide +kernel, by decide +kernel⟩
abbrev N_law_row : List Str := ["_law_script", "_law_row_here", "_law_k", "_law_cell", "_law_turn", "_law_mixed"]
abbrev p_law_row : List Str := ["_law_script"]
theorem sc_law_row : FnScope N_law_row p_law_row (defScope s_law_row) := ⟨rfl, rfl, rfl, by decide +kernel, rfl, by decide +kernel, by decide +kernel⟩
abbrev N_law_at : List Str := ["_law_row_here", "_law_at_here"]
abbrev p_law_at : List Str := ["_law_row_here", "_law_at_here"]
theorem sc_law_at : FnScope N_law_at p_law_at (defScope s_law_at) := ⟨rfl, rfl, rfl, by decide +kernel, rfl, by decide +kernel, by decide +kernel⟩
abbrev N_law_machine : List Str := ["_law_row_here", "_law_at_here", "_law_letters", "_law_outs", "_law_states", "_law_moves", "_law_outputs", "_law_kind", "_law_s", "_law_targets", "_law_a", "_law_digit", "_law_target"]
abbrev p_law_machine : List Str := ["_law_row_here", "_law_at_here", "_law_letters", "_law_outs", "_law_states"]
theorem sc_law_machine : FnScope N_law_machine p_law_machine (defScope s_law_machine) := ⟨rfl, rfl, rfl, by decide +kernel, rfl, by decide +kernel, by decide +kernel⟩
abbrev N_law_state : List Str := ["_law_machine_here", "_law_word", "_law_state_here", "_law_letter"]
abbrev p_law_state : List Str := ["_law_machine_here", "_law_word"]
theorem sc_law_state : FnScope N_law_state p_law_state (defScope s_law_state) := ⟨rfl, rfl, rfl, by decide +kernel, rfl, by decide +kernel, by decide +kernel⟩
abbrev N_law_output : List Str := ["_law_machine_here", "_law_word"]
abbrev p_law_output : List Str := ["_law_machine_here", "_law_word"]
theorem sc_law_output : FnScope N_law_output p_law_output (defScope s_law_output) := ⟨rfl, rfl, rfl, by decide +kernel, rfl, by decide +kernel, by decide +kernel⟩
abbrev N_law_classes : List Str := ["_law_machine_here", "_law_classes_here", "_law_turn", "_law_marks", "_law_s", "_law_mark", "_law_t"]
abbrev p_law_classes : List Str := ["_law_machine_here"]
theorem sc_law_classes : FnScope N_law_classes p_law_classes (defScope s_law_classes) := ⟨rfl, rfl, rfl, by decide +kernel, rfl, by decide +kernel, by decide +kernel⟩
abbrev N_law_least : List Str := ["_law_machine_here", "_law_classes_here", "_law_order", "_law_at_here", "_law_target", "_law_moves", "_law_s", "_law_t"]
abbrev p_law_least : List Str := ["_law_machine_here"]
theorem sc_law_least : FnScope N_law_least p_law_least (defScope s_law_least) := ⟨rfl, rfl, rfl, by decide +kernel, rfl, by decide +kernel, by decide +kernel⟩
abbrev N_law_digits : List Str := ["_law_number", "_law_digits_here"]
abbrev p_law_digits : List Str := ["_law_number"]
theorem sc_law_digits : FnScope N_law_digits p_law_digits (defScope s_law_digits) := ⟨rfl, rfl, rfl, by decide +kernel, rfl, by decide +kernel, by decide +kernel⟩
abbrev N_law_bound : List Str := ["_law_states", "_law_letters", "_law_longest"]
abbrev p_law_bound : List Str := ["_law_states", "_law_letters", "_law_longest"]
theorem sc_law_bound : FnScope N_law_bound p_law_bound (defScope s_law_bound) := ⟨rfl, rfl, rfl, by decide +kernel, rfl, by decide +kernel, by decide +kernel⟩
abbrev N_law_was : List Str := ["_law_machine_here", "_law_row_here", "_law_letters", "_law_outs", "_law_moves", "_law_outputs", "_law_kind", "_law_s"]
abbrev p_law_was : List Str := ["_law_machine_here", "_law_row_here"]
theorem sc_law_was : FnScope N_law_was p_law_was (defScope s_law_was) := ⟨rfl, rfl, rfl, by decide +kernel, rfl, by decide +kernel, by decide +kernel⟩
abbrev N_law : List Str := ["_law_script", "_law_row_here", "_law_letters", "_law_outs", "_law_machine_here", "_law_was_here", "_law_before", "_law_least_here", "_law_most", "_law_box", "_law_asker", "_law_words", "_law_counts", "_law_turn", "_law_step", "_law_word", "_law_due", "_law_n", "_law_k"]
abbrev p_law : List Str := ["_law_script"]
theorem sc_law : FnScope N_law p_law (defScope s_law) := ⟨rfl, rfl, rfl, by decide +kernel, rfl, by decide +kernel, by decide +kernel⟩
end MW
/-! ## W55 -/
namespace MW
open PySem PySem.Spec PyProof.Rows L2
/-! ### tuples without a dict of their own: their methods may be called -/
def FzT (H : Hp) (a : Addr) (xs : List V) : Prop := ∃ o : Obj, H a = some (.frz o (.tup xs)) ∧ o.dict = none
theorem FzT.rd {H : Hp} {a : Addr} {xs : List V} (h : FzT H a xs) : Rd H a (.tup xs) := let ⟨o, e, _⟩ := h; .inr ⟨o, e⟩
section
variable {X : Cx}
def rTupOfF (K : PySem.W.Frag) : List V → Hp → VK → Prop := fun xs H Q => ∃ p ys, xs = [.ref p] ∧ SqL K H p ys ∧ ∀ l (o : Obj), H l = none → o.dict = none → Q (.ref l) (upd H l (.frz o (.tup ys)))
theorem call_tuple_ofF : CallR X (.type "tuple") (rTupOfF X.K) := by
  intro pins s σ H xs us Q I r h
  obtain ⟨p, ys, rfl, hq, q⟩ := h
  obtain ⟨u, rfl, rx⟩ := vals1 r
  cases rx
  obtain ⟨its, r2, pl, hz⟩ := I.list hq
  have hlen := r2.length
  refine call_tuple_list pl.isList (fun h2 kp => ?_) (by simp only [List.size_toArray] <;> omega)
  have I1 : L2.Inv X pins σ H { s with heap := h2 } := I.kept (t' := s.toks) kp
  have I2 : L2.Inv X pins σ (upd H h2.objs.size (.frz { cls := .type "tuple", data := .seq its.toArray } (.tup ys))) { s with heap := h2.push { cls := .type "tuple", data := .seq its.toArray } } :=
    I1.laid (t' := s.toks) (fun b o e => Heap.get?_push_of_some _ e) (Nat.le_refl _) ⟨Heap.get?_push_size _ rfl, hz, its, r2, IsTup.new _ _⟩
  exact ⟨.ref h2.objs.size, _, I2, rfl, q _ _ (I1.hok.fresh (Nat.le_refl _)) rfl⟩
def rCatF (K : PySem.W.Frag) : R2 := fun x y H Q => ∃ a b xs ys, x = .ref a ∧ y = .ref b ∧ SqT K H a xs ∧ SqT K H b ys ∧ xs.length + ys.length ≤ sizeLine ∧
  (xs = [] → Q (.ref b) H) ∧ (xs ≠ [] → ys = [] → Q (.ref a) H) ∧ (xs ≠ [] → ys ≠ [] → ∀ p (o : Obj), H p = none → o.dict = none → Q (.ref p) (upd H p (.frz o (.tup (xs ++ ys)))))
theorem op_catF : OpR X (binaryOp .Add) (rCatF X.K) := by
  intro pins s σ H x y v u Q I rx ry h
  obtain ⟨a, b, xs, ys, rfl, rfl, ha, hb, hz, q0, q1, q2⟩ := h
  cases rx
  cases ry
  obtain ⟨its, r1, p1, _⟩ := I.tuple ha
  obtain ⟨its2, r2, p2, _⟩ := I.tuple hb
  by_cases hx : xs = []
  · subst hx
    cases r1
    exact cat_tup0 p1 p2 ⟨.ref b, H, I, rfl, q0 rfl⟩
  · refine HT.cat_tup p1 p2 (fun z => hx (r1.nil_iff.mp z)) (fun z => ⟨.ref a, H, I, rfl, q1 hx (r2.nil_iff.mp z)⟩) (fun z => ?_) (by rw [← r1.length, ← r2.length]; exact hz)
    refine ⟨.ref s.heap.objs.size, _, I.laid (t' := s.toks) (o := .frz { cls := .type "tuple", data := .seq (its ++ its2).toArray } (.tup (xs ++ ys))) (fun b ob q => Heap.get?_push_of_some _ q) (Nat.le_refl _) ?_, rfl, q2 hx (fun w => z (r2.nil_iff.mpr w)) _ _ (I.hok.fresh (Nat.le_refl _)) rfl⟩
    exact ⟨Heap.get?_push_size _ rfl, by rw [List.length_append]; exact hz, _, r1.append r2, IsTup.new _ _⟩
def tTupF (t : TA) : TE := fun σ H Q => t σ H fun xs H1 => xs.length ≤ sizeLine ∧ ∀ p (o : Obj), H1 p = none → o.dict = none → Q (.ref p) (upd H1 p (.frz o (.tup xs)))
theorem pe_tupF {x1} {es : List Expr} {t : TA} {pos : Pos} (h : PA X es t) : PE X (.Tuple es x1 pos) (tTupF t) := by
  refine ⟨fun pins s σ H Q I hq => ?_⟩
  refine wpAny_Tuple_spliced (thn (h.run pos pins s σ H _ I hq) fun us s1 ⟨xs, H1, I1, r, z, q⟩ => ⟨by rw [← r.length]; exact z, ?_⟩)
  have hf : H1 s1.heap.objs.size = none := I1.hok.fresh (Nat.le_refl _)
  refine ⟨.ref s1.heap.objs.size, _, I1.laid (t' := s1.toks) (o := .frz { cls := .type "tuple", data := .seq us.toArray } (.tup xs)) (fun b u e => Heap.get?_push_of_some _ e) (Nat.le_refl _) ?_, rfl, q _ _ hf rfl⟩
  exact ⟨Heap.get?_push_size _ rfl, z, us, r, ⟨_, Heap.get?_push_size _ rfl, rfl, _, rfl⟩⟩
/-- t.m(..) -/
def tBMT (r : V → List V → Hp → VK → Prop) (to : TE) (t : TA) : TE := fun σ H Q => to σ H fun x H1 => ∃ a xs, x = .ref a ∧ FzT H1 a xs ∧ t σ H1 fun ys H2 => r x ys H2 Q
variable {o e : Expr} {es : List Expr} {to : TE} {t : TA} {name : Str} {apos cpos : Pos} {id : String} {r : V → List V → Hp → VK → Prop}
theorem pe_bmT (slot : Slot "tuple" name id) (hty : typeOf (.builtin id) = pure (.type "method_descriptor")) (hm : MtR X id r) (ho : PE X o to) (ha : PA X (e :: es) t)
    (hbase : attributeBase o name X.env (eval o X.env) = eval o X.env := by rfl)
    (hfew : ((backTo cpos (starEach (e :: es) X.env)).all (fun x => !x.1) && (backToKw cpos (keywordEach [] X.env)).all (fun x => x.1.isSome)
      && decide ((e :: es).length + ([] : List Keyword).length + (if ([] : List Keyword).isEmpty then 0 else 1) < 30)) = true := by rfl)
    (hline : (apos.endLine == cpos.line) = true := by rfl) (hs : starEach (e :: es) X.env = (false, eval e X.env) :: starEach es X.env := by rfl) (hplain : (backTo cpos (starEach es X.env)).any (·.1) = false := by rfl) :
    PE X (.Call (.Attribute o name apos) (e :: es) [] cpos) (tBMT r to t) := by
  refine ⟨fun pins s σ H Q I h => ?_⟩
  refine wpAny_Call_method_late hbase hfew hline rfl (thn (ho.run pins s σ H _ I h) fun v s1 ⟨x, H1, I1, r1, a, xs, ex, ⟨ob, hob, hdn⟩, q1⟩ => ?_)
  subst ex
  obtain rfl : v = Value.ref a := r1
  obtain ⟨hg, _, its, _, o', ho', hc', _⟩ := I1.hok a _ hob
  rw [hg] at ho'
  cases ho'
  refine ⟨"tuple", id, PySem.F.plainAttrs_tuple, slot, hty, ⟨ob, hg, hc'⟩, fun b eb => ?_, ?_⟩
  · cases eb
    exact ⟨ob, hg, hdn⟩
  have hA := ha.run cpos pins s1 σ H1 _ I1 q1
  rw [hs] at hA ⊢
  refine Calls.callWith_builtin (by show (false || (backTo cpos (starEach es X.env)).any (·.1)) = false; rw [hplain] <;> rfl) (Calls.evalArgs_plain ?_)
  exact thn hA fun us s2 ⟨vs, H2, I2, r2, q2⟩ => hm pins s2 σ H2 (.ref a) vs (.ref a) us Q I2 rfl r2 q2
end
end MW
/-! ## W6 -/
namespace MW
open PySem PySem.Spec PyProof.Rows L2 Evl
/-! ### lists of values against lists of data -/
structure Als {α : Type} (R : V → α → Prop) (vs : List V) (xs : List α) : Prop where
  len : vs.length = xs.length
  at_ : ∀ (i : Nat) (v : V) (x : α), vs[i]? = some v → xs[i]? = some x → R v x
section
variable {α β : Type} {R R' : V → α → Prop} {vs us : List V} {xs ys : List α}
theorem Als.nil : Als R [] ([] : List α) := ⟨rfl, fun _ _ _ h => by simp at h⟩
theorem Als.mono (h : Als R vs xs) (f : ∀ v x, x ∈ xs → R v x → R' v x) : Als R' vs xs := ⟨h.len, fun i v x a b => f v x (List.mem_of_getElem? b) (h.at_ i v x a b)⟩
theorem Als.get (h : Als R vs xs) {i : Nat} {x : α} (e : xs[i]? = some x) : ∃ v, vs[i]? = some v ∧ R v x := by
  have hi := (List.getElem?_eq_some_iff.mp e).1
  have hv : i < vs.length := by rw [h.len]; exact hi
  exact ⟨vs[i], List.getElem?_eq_getElem hv, h.at_ i _ x (List.getElem?_eq_getElem hv) e⟩
theorem Als.of (h : Als R vs xs) {i : Nat} {v : V} (e : vs[i]? = some v) : ∃ x, xs[i]? = some x ∧ R v x := by
  have hi := (List.getElem?_eq_some_iff.mp e).1
  have hv : i < xs.length := by rw [← h.len]; exact hi
  exact ⟨xs[i], List.getElem?_eq_getElem hv, h.at_ i v _ e (List.getElem?_eq_getElem hv)⟩
theorem Als.app (h : Als R vs xs) (g : Als R us ys) : Als R (vs ++ us) (xs ++ ys) := by
  refine ⟨by rw [List.length_append, List.length_append, h.len, g.len], fun i v x a b => ?_⟩
  by_cases c : i < vs.length
  · rw [List.getElem?_append_left c] at a
    rw [List.getElem?_append_left (by rw [← h.len]; exact c)] at b
    exact h.at_ i v x a b
  · rw [List.getElem?_append_right (by omega)] at a
    rw [List.getElem?_append_right (by rw [← h.len]; omega), ← h.len] at b
    exact g.at_ _ v x a b
theorem Als.one {v : V} {x : α} (h : R v x) : Als R [v] [x] := ⟨rfl, fun i u y a b => by
  cases i with
  | zero => simp at a b; rw [← a, ← b]; exact h
  | succ i => simp at a⟩
theorem Als.snoc (h : Als R vs xs) {v : V} {x : α} (g : R v x) : Als R (vs ++ [v]) (xs ++ [x]) := h.app (.one g)
theorem Als.rev (h : Als R vs xs) : Als R vs.reverse xs.reverse := by
  refine ⟨by rw [List.length_reverse, List.length_reverse, h.len], fun i v x a b => ?_⟩
  have c : i < vs.length := by have := (List.getElem?_eq_some_iff.mp a).1; simpa using this
  rw [List.getElem?_reverse c] at a
  rw [List.getElem?_reverse (by rw [← h.len]; exact c), ← h.len] at b
  exact h.at_ _ v x a b
theorem Als.drop (h : Als R vs xs) (n : Nat) : Als R (vs.drop n) (xs.drop n) :=
  ⟨by rw [List.length_drop, List.length_drop, h.len], fun i v x a b => by rw [List.getElem?_drop] at a b; exact h.at_ _ v x a b⟩
theorem Als.take (h : Als R vs xs) (n : Nat) : Als R (vs.take n) (xs.take n) :=
  ⟨by rw [List.length_take, List.length_take, h.len], fun i v x a b => by
    rw [List.getElem?_take] at a b
    split at a
    · rename_i c
      rw [if_pos c] at b
      exact h.at_ _ v x a b
    · cases a⟩
/-- a list made turn by turn -/
theorem Als.range {f : Nat → α} {n : Nat} (hl : vs.length = n) (h : ∀ (i : Nat) (v : V), vs[i]? = some v → R v (f i)) : Als R vs ((List.range n).map f) := by
  refine ⟨by simp [hl], fun i v x a b => ?_⟩
  rw [List.getElem?_map] at b
  have hi : i < n := by rw [← hl]; exact (List.getElem?_eq_some_iff.mp a).1
  rw [List.getElem?_range hi] at b
  cases b
  exact h i v a
theorem Als.each {xs : List β} {f : β → α} (hl : vs.length = xs.length) (h : ∀ (i : Nat) (v : V) (x : β), vs[i]? = some v → xs[i]? = some x → R v (f x)) : Als R vs (xs.map f) := by
  refine ⟨by simp [hl], fun i v x a b => ?_⟩
  rw [List.getElem?_map, Option.map_eq_some_iff] at b
  obtain ⟨y, hy, rfl⟩ := b
  exact h i v y a hy
end
/-- the values of izs -/
theorem vals_range {vs : List V} {f : Nat → V} {n : Nat} (hl : vs.length = n) (h : ∀ (i : Nat) (v : V), vs[i]? = some v → v = f i) : vs = (List.range n).map f := by
  apply List.ext_getElem?
  intro i
  by_cases c : i < n
  · rw [List.getElem?_map, List.getElem?_range c, List.getElem?_eq_getElem (by omega)]
    exact congrArg some (h i _ (List.getElem?_eq_getElem (by omega)))
  · rw [List.getElem?_eq_none (by omega), List.getElem?_eq_none (by simp; omega)]
theorem vals_each {β : Type} {vs : List V} {f : β → V} {xs : List β} (hl : vs.length = xs.length) (h : ∀ (i : Nat) (v : V) (x : β), vs[i]? = some v → xs[i]? = some x → v = f x) : vs = xs.map f := by
  apply List.ext_getElem?
  intro i
  by_cases c : i < xs.length
  · rw [List.getElem?_map, List.getElem?_eq_getElem c, List.getElem?_eq_getElem (by omega)]
    exact congrArg some (h i _ _ (List.getElem?_eq_getElem (by omega)) (List.getElem?_eq_getElem c))
  · rw [List.getElem?_eq_none (by omega), List.getElem?_eq_none (by simp; omega)]
/-! ### words, machines in the heap -/
/-- tuples stay -/
def IsT : HO → Prop
  | .tup _ => True
  | .frz _ (.tup _) => True
  | _ => False
def Tk (H H' : Hp) : Prop := ∀ a u, IsT u → H a = some u → H' a = some u
theorem Tk.refl (H : Hp) : Tk H H := fun _ _ _ h => h
theorem Tk.trans {H H1 H2 : Hp} (a : Tk H H1) (b : Tk H1 H2) : Tk H H2 := fun x u t h => b x u t (a x u t h)
theorem Tk.at {H H' : Hp} (t : Tk H H') {a : Addr} {xs : List V} (h : H a = some (.tup xs)) : H' a = some (.tup xs) := t a _ True.intro h
theorem Tk.fz {H H' : Hp} (t : Tk H H') {a : Addr} {xs : List V} (h : FzT H a xs) : FzT H' a xs := let ⟨o, e, d⟩ := h; ⟨o, t a _ True.intro e, d⟩
theorem Tk.rd {H H' : Hp} (t : Tk H H') {a : Addr} {xs : List V} (h : Rd H a (.tup xs)) : Rd H' a (.tup xs) := h.elim (fun e => .inl (t.at e)) fun ⟨o, e⟩ => .inr ⟨o, t a _ True.intro e⟩
theorem tk_ex {H H' : Hp} (e : Ex H H') : Tk H H' := fun a u _ h => e a _ h
theorem tk_upd {H : Hp} {a : Addr} {o u : HO} (h : H a = some o) (n : ¬ IsT o) : Tk H (upd H a u) := fun b v t e => by
  have : b ≠ a := fun q => by rw [q, h] at e; cases e; exact n t
  rw [upd_ne this]
  exact e
theorem tk_new {H : Hp} {a : Addr} {u : HO} (h : H a = none) : Tk H (upd H a u) := tk_ex (Ex.new h)
def TW (H : Hp) (v : V) (w : List Nat) : Prop := ∃ a, v = .ref a ∧ H a = some (.tup (nvs w))
def LW (H : Hp) (v : V) (w : List Nat) : Prop := ∃ a, v = .ref a ∧ H a = some (.lst (nvs w))
theorem TW.keep {H H' : Hp} {v : V} {w : List Nat} (h : TW H v w) (t : Tk H H') : TW H' v w := let ⟨a, e, q⟩ := h; ⟨a, e, t.at q⟩
theorem LW.keep {H H' : Hp} {v : V} {w : List Nat} (h : LW H v w) (t : Ex H H') : LW H' v w := let ⟨a, e, q⟩ := h; ⟨a, e, t a _ q⟩
def MA (H : Hp) (v : V) (m : Mai.Mach) : Prop := ∃ (a b d : Addr) (rs : List V), v = .ref a ∧ H a = some (.tup [nv m.k, nv m.o, .ref b, .ref d]) ∧ H b = some (.tup rs) ∧ Als (TW H) rs m.mv ∧ Rd H d (.tup (nvs m.ou))
/-- its outputs' tuple has no dict of its own -/
def MF (H : Hp) (v : V) (m : Mai.Mach) : Prop := ∃ (a b d : Addr) (rs : List V), v = .ref a ∧ H a = some (.tup [nv m.k, nv m.o, .ref b, .ref d]) ∧ H b = some (.tup rs) ∧ Als (TW H) rs m.mv ∧ FzT H d (nvs m.ou)
theorem MF.ma {H : Hp} {v : V} {m : Mai.Mach} (h : MF H v m) : MA H v m := let ⟨a, b, d, rs, e, h1, h2, h3, h4⟩ := h; ⟨a, b, d, rs, e, h1, h2, h3, h4.rd⟩
theorem MA.keep {H H' : Hp} {v : V} {m : Mai.Mach} (h : MA H v m) (t : Tk H H') : MA H' v m :=
  let ⟨a, b, d, rs, e, h1, h2, h3, h4⟩ := h; ⟨a, b, d, rs, e, t.at h1, t.at h2, h3.mono fun _ _ _ q => q.keep t, t.rd h4⟩
theorem MF.keep {H H' : Hp} {v : V} {m : Mai.Mach} (h : MF H v m) (t : Tk H H') : MF H' v m :=
  let ⟨a, b, d, rs, e, h1, h2, h3, h4⟩ := h; ⟨a, b, d, rs, e, t.at h1, t.at h2, h3.mono fun _ _ _ q => q.keep t, t.fz h4⟩
theorem sqT_rd {K : PySem.W.Frag} {H : Hp} {a : Addr} {xs : List V} (h : Rd H a (.tup xs)) : SqT K H a xs := .inl h
theorem nvs_get {w : List Nat} {i x : Nat} (h : w[i]? = some x) : (nvs w)[i]? = some (nv x) := by rw [List.getElem?_map, h]; rfl
theorem nvs_of {w : List Nat} {i : Nat} {v : V} (h : (nvs w)[i]? = some v) : ∃ x, w[i]? = some x ∧ v = nv x := by
  rw [List.getElem?_map, Option.map_eq_some_iff] at h
  obtain ⟨x, a, b⟩ := h
  exact ⟨x, a, b.symm⟩
theorem nvs_len (w : List Nat) : (nvs w).length = w.length := List.length_map ..
theorem nvs_app (v w : List Nat) : nvs (v ++ w) = nvs v ++ nvs w := List.map_append
theorem nv_inj {a b : Nat} (h : nv a = nv b) : a = b := by have := V.int.inj h; omega
theorem flat_nvs (w : List Nat) : (nvs w).all flatV = true := by rw [List.all_map]; exact List.all_eq_true.mpr fun _ _ => rfl
theorem inV_nvs (x : Nat) (w : List Nat) : inV (nv x) (nvs w) = decide (x ∈ w) := by
  unfold inV
  rw [List.any_map]
  rw [Bool.eq_iff_iff, List.any_eq_true, decide_eq_true_eq]
  constructor
  · rintro ⟨y, hy, e⟩
    have e2 : ((y : Int) == (x : Int)) = true := e
    have e3 := beq_iff_eq.mp e2
    have : y = x := by omega
    rw [← this]
    exact hy
  · intro h
    exact ⟨x, h, show ((x : Int) == (x : Int)) = true from beq_self_eq_true _⟩
theorem at_nat {xs : List V} {j : Nat} {i : Int} {v : V} (e : i = (j : Int)) (h : xs[j]? = some v) : atI xs i = some v := by rw [e]; exact atI_nat h
/-! ### keys: words -/
def wk (w : List Nat) : List Key := w.map fun (n : Nat) => Sum.inl (n : Int)
theorem wk_kV (w : List Nat) : (wk w).map kV = nvs w := by unfold wk; rw [List.map_map]; rfl
theorem wk_inj : ∀ {v w : List Nat}, wk v = wk w → v = w
  | [], [], _ => rfl
  | [], _ :: _, h => by cases h
  | _ :: _, [], h => by cases h
  | a :: v, b :: w, h => by
    have h1 : (Sum.inl (a : Int) : Key) :: wk v = Sum.inl (b : Int) :: wk w := h
    rw [List.cons.injEq] at h1
    have e1 : (a : Int) = b := Sum.inl.inj h1.1
    have e2 : a = b := by omega
    rw [e2, wk_inj h1.2]
/-- a dict by its words -/
def kd {α : Type} (f : α → V) (l : List (List Nat × α)) : List (List Key × V) := l.map fun p => (wk p.1, f p.2)
theorem kd_val {α : Type} (f : α → V) (w : List Nat) : ∀ l : List (List Nat × α), valV (kd f l) (wk w) = (l.find? fun p => decide (p.1 = w)).map fun p => f p.2
  | [] => rfl
  | p :: l => by
    unfold kd
    rw [List.map_cons, List.find?_cons]
    by_cases e : p.1 = w
    · rw [valV_pos (by rw [e])]
      simp [e]
    · rw [valV_neg (fun q => e (wk_inj q))]
      simp only [e, decide_false]
      exact kd_val f w l
theorem kd_put {α : Type} (f : α → V) {w : List Nat} {x : α} {l : List (List Nat × α)} (h : ∀ p ∈ l, p.1 ≠ w) : putK (kd f l) (wk w) (f x) = kd f (l ++ [(w, x)]) := by
  rw [putK_new]
  · unfold kd
    rw [List.map_append]
    rfl
  · rw [kd_val, List.find?_eq_none.mpr]
    · rfl
    · intro p hp
      simpa using h p hp
theorem kd_put_at {α : Type} (f : α → V) {w : List Nat} {x : α} {l : List (List Nat × α)} (h : ∃ p ∈ l, p.1 = w) : putK (kd f l) (wk w) (f x) = kd f (l.map fun p => if p.1 = w then (p.1, x) else p) := by
  obtain ⟨p, hp, e⟩ := h
  unfold putK
  have : ((kd f l).any fun kv => decide (kv.1 = wk w)) = true := by
    rw [List.any_eq_true]
    exact ⟨(wk p.1, f p.2), List.mem_map.mpr ⟨p, hp, rfl⟩, by simp [e]⟩
  rw [if_pos this]
  unfold kd
  rw [List.map_map, List.map_map]
  refine List.map_congr_left fun q _ => ?_
  show (if wk q.1 = wk w then (wk q.1, f x) else (wk q.1, f q.2)) = (wk (if q.1 = w then (q.1, x) else q).1, f (if q.1 = w then (q.1, x) else q).2)
  by_cases e : q.1 = w
  · rw [if_pos (by rw [e]), if_pos e]
  · rw [if_neg (fun z => e (wk_inj z)), if_neg e]
/-! ### an object's attributes -/
theorem zip_look : ∀ {ns : List Str} {vs : List V} {i : Nat} {x : Str} {v : V}, ns.Nodup → ns[i]? = some x → vs[i]? = some v → (ns.zip vs).lookup x = some v
  | [], _, _, _, _, _, h, _ => by simp at h
  | _ :: _, [], _, _, _, _, _, h => by simp at h
  | n :: ns, u :: vs, 0, x, v, nd, h1, h2 => by
    simp at h1 h2
    subst h1 h2
    rw [List.zip_cons_cons, List.lookup_cons, beq_self_eq_true]
  | n :: ns, u :: vs, i + 1, x, v, nd, h1, h2 => by
    rw [List.nodup_cons] at nd
    simp at h1 h2
    rw [List.zip_cons_cons, List.lookup_cons]
    have ne : x ≠ n := fun e => nd.1 (by rw [← e]; exact List.mem_of_getElem? h1)
    rw [beq_eq_false_iff_ne.mpr ne]
    exact zip_look nd.2 h1 h2
theorem zip_none : ∀ {ns : List Str} {vs : List V} {x : Str}, x ∉ ns → (ns.zip vs).lookup x = none
  | [], _, _, _ => rfl
  | _ :: _, [], _, _ => rfl
  | n :: ns, u :: vs, x, h => by
    rw [List.zip_cons_cons, List.lookup_cons, beq_eq_false_iff_ne.mpr (fun e => h (by rw [e]; exact List.mem_cons_self))]
    exact zip_none fun q => h (List.mem_cons_of_mem _ q)
theorem zip_put : ∀ {ns : List Str} {vs : List V} {i : Nat} {x : Str} {v : V}, ns.Nodup → ns[i]? = some x → i < vs.length → putF x v (ns.zip vs) = ns.zip (vs.set i v)
  | [], _, _, _, _, _, h, _ => by simp at h
  | _ :: _, [], _, _, _, _, _, h => by simp at h
  | n :: ns, u :: vs, 0, x, v, nd, h1, h2 => by
    simp at h1
    subst h1
    show (if n = n then _ else _) = _
    rw [if_pos rfl]
    rfl
  | n :: ns, u :: vs, i + 1, x, v, nd, h1, h2 => by
    rw [List.nodup_cons] at nd
    simp at h1 h2
    have ne : ¬ n = x := fun e => nd.1 (by rw [e]; exact List.mem_of_getElem? h1)
    show (if n = x then _ else (n, u) :: putF x v (ns.zip vs)) = _
    rw [if_neg ne, zip_put nd.2 h1 h2]
    rfl
theorem zip_end : ∀ {ns : List Str} {vs : List V} {i : Nat} {x : Str} {v : V}, ns.Nodup → ns[i]? = some x → i = vs.length → putF x v (ns.zip vs) = ns.zip (vs ++ [v])
  | [], _, _, _, _, _, h, _ => by simp at h
  | n :: ns, [], 0, x, v, nd, h1, h2 => by
    simp at h1
    subst h1
    simp [putF]
  | n :: ns, u :: vs, 0, x, v, nd, h1, h2 => by simp at h2
  | n :: ns, [], i + 1, x, v, nd, h1, h2 => by simp at h2
  | n :: ns, u :: vs, i + 1, x, v, nd, h1, h2 => by
    rw [List.nodup_cons] at nd
    simp at h1 h2
    have ne : ¬ n = x := fun e => nd.1 (by rw [e]; exact List.mem_of_getElem? h1)
    show (if n = x then _ else (n, u) :: putF x v (ns.zip vs)) = _
    rw [if_neg ne, zip_end nd.2 h1 (by omega)]
    rfl
/-- a class and its attributes -/
structure Cf (K : PySem.W.Frag) (C : Addr) (ns : List Str) : Prop where
  k : Cls K C
  n : ∀ f ∈ ns, NoAttr K C f
  nd : ns.Nodup
  z : ns.length < 1000
section
variable {K : PySem.W.Frag} {C p dx : Addr} {ns : List Str} {vs : List V} {f : Str} {v : V} {i : Nat} {H : Hp} {Q : V → Prop}
theorem fget (cf : Cf K C ns) (hp : H p = some (.ins C dx (ns.zip vs))) (h1 : ns[i]? = some f) (h2 : vs[i]? = some v) (q : Q v) :
    ∃ a C' dx' fs v', V.ref p = .ref a ∧ H a = some (.ins C' dx' fs) ∧ Cls K C' ∧ NoAttr K C' f ∧ fs.lookup f = some v' ∧ Q v' :=
  ⟨p, C, dx, _, v, rfl, hp, cf.k, cf.n f (List.mem_of_getElem? h1), zip_look cf.nd h1 h2, q⟩
theorem fput {Z : Addr → Addr → Addr → List (Str × V) → Prop} (cf : Cf K C ns) (hp : H p = some (.ins C dx (ns.zip vs))) (h1 : ns[i]? = some f) (q : Z p C dx (ns.zip vs)) :
    ∃ a C' dx' fs, V.ref p = .ref a ∧ H a = some (.ins C' dx' fs) ∧ Cls K C' ∧ NoAttr K C' f ∧ fs.length < 1000 ∧ Z a C' dx' fs :=
  ⟨p, C, dx, _, rfl, hp, cf.k, cf.n f (List.mem_of_getElem? h1), by rw [List.length_zip]; have := cf.z; omega, q⟩
end
theorem nd_Halving : fl_Halving.Nodup := by decide +kernel
theorem nd_Table : fl_Table.Nodup := by decide +kernel
theorem nd_Asker : fl_Asker.Nodup := by decide +kernel
theorem nd_ChangedAsker : fl_ChangedAsker.Nodup := by decide +kernel
theorem nd_Choices : fl_Choices.Nodup := by decide +kernel
theorem nd_Honest : fl_Honest.Nodup := by decide +kernel
section
variable {K : PySem.W.Frag} {mg : Str → Option Value} {c : Cs}
theorem Tx.fH (T : Tx K mg c) : Cf K c.Halving fl_Halving := ⟨T.k_Halving, T.n_Halving, nd_Halving, by decide⟩
theorem Tx.fT (T : Tx K mg c) : Cf K c.Table fl_Table := ⟨T.k_Table, T.n_Table, nd_Table, by decide⟩
theorem Tx.fA (T : Tx K mg c) : Cf K c.Asker fl_Asker := ⟨T.k_Asker, T.n_Asker, nd_Asker, by decide⟩
theorem Tx.fC (T : Tx K mg c) : Cf K c.ChangedAsker fl_ChangedAsker := ⟨T.k_ChangedAsker, T.n_ChangedAsker, nd_ChangedAsker, by decide⟩
theorem Tx.fX (T : Tx K mg c) : Cf K c.Choices fl_Choices := ⟨T.k_Choices, T.n_Choices, nd_Choices, by decide⟩
theorem Tx.fB (T : Tx K mg c) : Cf K c.Honest fl_Honest := ⟨T.k_Honest, T.n_Honest, nd_Honest, by decide⟩
end
theorem ndAt_ex {P : Program} {w : World} {H H' : Hp} {d : Addr} {kvs : List (SK × V)} (h : NdAt P w H d kvs) (e : Ex H H') : NdAt P w H' d kvs := by
  obtain ⟨_, _, _, _, _, q⟩ := id h
  exact h.keep (fun a ys e' => e a _ e') (by rw [e _ _ q, q])
theorem keyN_ex {H H' : Hp} {b : Addr} {k : SK} (h : KeyN H b k) (e : Ex H H') : KeyN H' b k := h.keep fun a ys e' => e a _ e'
theorem sz1 : 1 ≤ sizeLine := by decide
theorem sz2 : 2 ≤ sizeLine := by decide
theorem sz3 : 3 ≤ sizeLine := by decide
theorem sz4 : 4 ≤ sizeLine := by decide
theorem szl {n : Nat} (h : n < 1000000) : n < sizeLine := Nat.lt_trans h (by decide)
theorem szle {n : Nat} (h : n < 1000000) : n ≤ sizeLine := Nat.le_of_lt (szl h)
theorem nd_f {p : Prop} {i : Decidable p} (h : p) : (!@decide p i) = false := by rw [decide_eq_true h]; rfl
theorem nd_t {p : Prop} {i : Decidable p} (h : ¬ p) : (!@decide p i) = true := by rw [decide_eq_false h]; rfl
theorem d_f {p : Prop} {i : Decidable p} (h : ¬ p) : @decide p i = false := decide_eq_false h
theorem d_t {p : Prop} {i : Decidable p} (h : p) : @decide p i = true := decide_eq_true h
theorem iteP {b : Bool} {A B : Prop} (h : b = true) (a : A) : if b = true then A else B := by
  rw [if_pos h]
  exact a
theorem iteN {b : Bool} {A B : Prop} (h : b = false) (x : B) : if b = true then A else B := by
  rw [if_neg (by rw [h]; exact Bool.false_ne_true)]
  exact x
def izs (w : List Nat) : List Int := w.map fun (n : Nat) => (n : Int)
theorem nvs_izs (w : List Nat) : nvs w = (izs w).map V.int := by
  unfold izs nvs
  rw [List.map_map]
  rfl
theorem idx_reads {o : List Nat} {x : Nat} (h : x ∈ o) : (nvs o)[Mai.idx o x]? = some (nv x) ∧ eqV (nv x) (nv x) = true ∧ ∀ (m : Nat) (z' : V), m < Mai.idx o x → (nvs o)[m]? = some z' → eqV z' (nv x) = false := by
  refine ⟨nvs_get (Mai.idx_get h), show ((x : Int) == (x : Int)) = true from beq_self_eq_true _, fun m z' hm hz => ?_⟩
  obtain ⟨y, hy, rfl⟩ := nvs_of hz
  show ((y : Int) == (x : Int)) = false
  refine beq_eq_false_iff_ne.mpr fun e => ?_
  have : y = x := by omega
  subst this
  have h1 : Mai.idx o y ≤ m := Mai.idxOf_le hy
  omega
theorem idx_izs {o : List Nat} {x : Nat} (h : x ∈ o) : (izs o)[Mai.idx o x]? = some (x : Int) ∧ ∀ m, m < Mai.idx o x → (izs o)[m]? ≠ some (x : Int) := by
  unfold izs
  refine ⟨by rw [List.getElem?_map, Mai.idx_get h]; rfl, fun m hm hz => ?_⟩
  rw [List.getElem?_map, Option.map_eq_some_iff] at hz
  obtain ⟨y, hy, e⟩ := hz
  have : y = x := by omega
  subst this
  have h1 : Mai.idx o y ≤ m := Mai.idxOf_le hy
  omega
theorem trues {acc : List V} {n : Nat} (hl : acc.length = n) (h : ∀ (i : Nat) (v : V), acc[i]? = some v → v = .bl true) : acc = (List.replicate n true).map V.bl := by
  apply List.ext_getElem?
  intro i
  by_cases c : i < n
  · rw [List.getElem?_map, List.getElem?_replicate, if_pos c, List.getElem?_eq_getElem (by omega)]
    exact congrArg some (h i _ (List.getElem?_eq_getElem (by omega)))
  · rw [List.getElem?_eq_none (by omega), List.getElem?_eq_none (by simp; omega)]
theorem all_true (n : Nat) : (List.replicate n true).all id = true := by rw [List.all_eq_true]; intro x hx; rw [List.eq_of_mem_replicate hx]; rfl
theorem tw_upd {H : Hp} {D : Addr} {acc o' : List V} {v : V} {w : List Nat} (h : TW H v w) (hD : H D = some (.lst acc)) : TW (upd H D (.lst o')) v w := h.keep (tk_upd hD fun z => z)
/-! ### a comprehension whose steps touch nothing -/
theorem lc_w {J : It} {n : Nat} {Y : Nat → Hp → V → Hp → Prop} {σ : L2.St} {j : Nat} {te : TE} {vs : List Nat} {H1 : Hp} {D : Addr} {Qd : Hp → Prop} (hD : H1 D = none) (w : Walk J n (fun H => Ex H1 H) Y)
    (hw : ∀ x, wipe ((wipe σ vs).set j (some x)) vs = wipe σ vs) (P : Nat → V → Hp → Prop)
    (st : ∀ i v H acc o', P i v H → H D = some (.lst acc) → v ≠ .ref D → P i v (upd H D (.lst o'))) (mono : ∀ i v H H', P i v H → Ex H H' → P i v H')
    (hs : ∀ i x H H', i < n → Ex H1 H → (∃ acc, H D = some (.lst acc)) → Y i H x H' → ∀ Q : VK, (∀ y H4, Ex H H4 → y ≠ .ref D → P i y H4 → Q y H4) → te ((wipe σ vs).set j (some x)) H' Q) (hn : n < 1000000)
    (hd : ∀ (H : Hp) (acc : List V), Ex H1 H → H D = some (.lst acc) → acc.length = n → (∀ (i : Nat) (v : V), acc[i]? = some v → P i v H) → Qd H) :
    ∃ W : Nat → Nat → Hp → Prop, (∃ m, W 0 m (upd H1 D (.lst []))) ∧ ∀ i m H, W i m H →
      (J.stop i H ∧ Qd H) ∨ (J.go i H ∧ ∃ Nx : Hp → Prop, (∀ H', Nx H' → ∃ m', m' < m ∧ W (i + 1) m' H') ∧ ∀ x H', J.yld i H x H' → gName j x (wipe σ vs) H' fun σ2 H2 => wipe σ2 vs = wipe σ vs ∧ tYes σ2 H2 fun b H3 =>
        if b = true then te σ2 H3 fun y H4 => ∃ acc, H4 D = some (.lst acc) ∧ acc.length < sizeLine ∧ Nx (upd H4 D (.lst (acc ++ [y]))) else Nx H3) := by
  refine lc_it w (fun i H => Ex H1 H ∧ ∃ acc, H D = some (.lst acc) ∧ acc.length = i ∧ ∀ (k : Nat) (v : V), acc[k]? = some v → P k v H ∧ v ≠ .ref D) ⟨Ex.new hD, [], upd_same, rfl, fun k v h => by simp at h⟩ (fun i H _ h => h.1) ?_ ?_
  · rintro i x H H' hi ⟨e, acc, ha, hl, hp⟩ y
    refine ⟨hw x, hs i x H H' hi e ⟨acc, ha⟩ y (fun y H4 => ∃ acc, H4 D = some (.lst acc) ∧ acc.length < sizeLine ∧ (Ex H1 (upd H4 D (.lst (acc ++ [y]))) ∧ ∃ acc', upd H4 D (.lst (acc ++ [y])) D = some (.lst acc') ∧ acc'.length = i + 1 ∧ ∀ (k : Nat) (v : V), acc'[k]? = some v → P k v (upd H4 D (.lst (acc ++ [y]))) ∧ v ≠ .ref D)) fun z H4 e4 ny py => ⟨acc, e4 D _ ha, by have : sizeLine = 2 ^ 24 := rfl; omega, ?_⟩⟩
    refine ⟨Ex.mut (e.trans e4) hD, acc ++ [z], upd_same, by simp [hl], fun k v hk => ?_⟩
    by_cases c : k < acc.length
    · rw [List.getElem?_append_left c] at hk
      obtain ⟨p1, p2⟩ := hp k v hk
      exact ⟨st k v H4 acc _ (mono k v H H4 p1 e4) (e4 D _ ha) p2, p2⟩
    · rw [List.getElem?_append_right (by omega)] at hk
      have hk0 : k - acc.length = 0 := by
        have := (List.getElem?_eq_some_iff.mp hk).1
        simp at this
        omega
      rw [hk0] at hk
      simp at hk
      subst hk
      have : k = i := by omega
      subst this
      exact ⟨st k z H4 acc _ py (e4 D _ ha) ny, ny⟩
  · rintro H ⟨e, acc, ha, hl, hp⟩
    exact hd H acc e ha hl fun i v hv => (hp i v hv).1
end MW
/-! ## W7 -/
namespace MW
open PySem PySem.Spec PyProof.Rows L2 Evl
/-! ### promises of the machine defs -/
def sp_refined (P : Program) (w : World) (K : PySem.W.Frag) (c : Cs) : Sp := fun vs H Q _ => ∃ (mv : V) (g : Addr) (m : Mai.Mach) (gs : List Nat), vs = [mv, .ref g] ∧ MA H mv m ∧ m.WF ∧ H g = some (.lst (nvs gs)) ∧ gs.length = m.n ∧
  ∀ r H', Ex H H' → H r = none → H' r = some (.lst (nvs (m.refined gs))) → Q (.ref r) H'
def sp_classes (P : Program) (w : World) (K : PySem.W.Frag) (c : Cs) : Sp := fun vs H Q _ => ∃ (mv : V) (m : Mai.Mach), vs = [mv] ∧ MF H mv m ∧ m.WF ∧
  ∀ r H', Ex H H' → H r = none → H' r = some (.lst (nvs m.cls)) → Q (.ref r) H'
def sp_met_states (P : Program) (w : World) (K : PySem.W.Frag) (c : Cs) : Sp := fun vs H Q _ => ∃ (mv : V) (g : Addr) (m : Mai.Mach), vs = [mv, .ref g] ∧ MA H mv m ∧ m.WF ∧ H g = some (.lst (nvs m.cls)) ∧
  ∀ r H', Ex H H' → H r = none → H' r = some (.lst (nvs (m.met m.cls))) → Q (.ref r) H'
def sp_least (P : Program) (w : World) (K : PySem.W.Frag) (c : Cs) : Sp := fun vs H Q _ => ∃ (mv : V) (m : Mai.Mach), vs = [mv] ∧ MF H mv m ∧ m.WF ∧ ∀ v H', Ex H H' → MA H' v m.least → Q v H'
def sp_is_machine (P : Program) (w : World) (K : PySem.W.Frag) (c : Cs) : Sp := fun vs H Q _ => ∃ (mv : V) (m : Mai.Mach), vs = [mv] ∧ MA H mv m ∧ m.WF ∧ ∀ H', Ex H H' → Q (.bl true) H'
def sp_check_machine (P : Program) (w : World) (K : PySem.W.Frag) (c : Cs) : Sp := fun vs H Q _ => ∃ (mv : V) (m : Mai.Mach), vs = [mv] ∧ MA H mv m ∧ m.WF ∧ ∀ H', Ex H H' → Q .non H'
end MW
/-! ## P1 -/
namespace MW
open PySem PySem.Spec PyProof.Rows L2 Evl
section
variable {P : Program} {w : World} {K : PySem.W.Frag} {mg : Str → Option Value} {base : Heap} {c : Cs}
/-! ### facts of machines -/
theorem row_get {m : Mai.Mach} (wf : m.WF) {s : Nat} (hs : s < m.n) : m.mv[s]? = some (m.row s) := by
  have h : s < m.mv.length := by rw [wf.len]; exact hs
  unfold Mai.Mach.row
  rw [List.getD_eq_getElem?_getD, List.getElem?_eq_getElem h]
  rfl
theorem step_get {m : Mai.Mach} (wf : m.WF) {s a : Nat} (hs : s < m.n) (ha : a < m.k) : (m.row s)[a]? = some (m.step s a) ∧ m.step s a < m.n := ⟨(Mai.Mach.row_at wf hs ha).1, wf.step hs ha⟩
theorem getD_some {l : List Nat} {i : Nat} (h : i < l.length) : l[i]? = some (l.getD i 0) := Mai.Mach.getD_some h
theorem at_get {m : Mai.Mach} {s : Nat} (hs : s < m.n) : m.ou[s]? = some (m.at_ s) := getD_some hs
theorem map_step {m : Mai.Mach} (wf : m.WF) {s : Nat} (hs : s < m.n) : m.row s = (List.range m.k).map (m.step s) := by
  apply List.ext_getElem?
  intro i
  by_cases c : i < m.k
  · rw [(step_get wf hs c).1, List.getElem?_map, List.getElem?_range c]
    rfl
  · rw [List.getElem?_eq_none (by rw [(wf.row hs).1]; omega), List.getElem?_eq_none (by simp; omega)]
theorem canon_at {α : Type} [DecidableEq α] {l : List α} {i : Nat} {x : α} (h : l[i]? = some x) : (Mai.canon l)[i]? = some (Mai.idx l x) := by
  unfold Mai.canon
  rw [List.getElem?_map, h]
  rfl
theorem take_succ' {α : Type} {l : List α} {i : Nat} {x : α} (h : l[i]? = some x) : l.take (i + 1) = l.take i ++ [x] := by
  rw [List.take_succ, h]
  rfl
theorem valV_app_none {κ : Type} [DecidableEq κ] {l r : List (κ × V)} {x : κ} (h : valV l x = none) : valV (l ++ r) x = valV r x := by
  unfold valV at h ⊢
  rw [Option.map_eq_none_iff] at h
  rw [List.find?_append, h, Option.none_or]
theorem valV_app_ne {κ : Type} [DecidableEq κ] {l : List (κ × V)} {k x : κ} {v : V} (h : k ≠ x) : valV (l ++ [(k, v)]) x = valV l x := by
  unfold valV
  rw [List.find?_append]
  have : ([(k, v)] : List (κ × V)).find? (fun kv => decide (kv.1 = x)) = none := by simp [h]
  rw [this, Option.or_none]
theorem ok_refined {f : Addr} {fd : FuncData} (T : Tx K mg c)  (F : FnP K "refined" "refined" s_refined f fd) : FnOk P w K mg base CX0 1 f fd p_refined (sp_refined P w K c) := by
  refine F.ok sc_refined (fun vs H Q E h => by obtain ⟨_, _, _, _, rfl, _⟩ := h; rfl) (fun cdv A outer s H vs Q E hr h => ?_)
  refine ⟨_, PSs.nox (pss_cons (ps_set (i := 2) sc_refined.nd rfl (Or.inl rfl) (pe_ix ix_tup (pv 0) pe_int (fun _ _ => rfl)))
     (pss_cons (ps_set (i := 3) sc_refined.nd rfl (Or.inl rfl) pe_ndNew)
     (pss_cons (ps_set (i := 4) sc_refined.nd rfl (Or.inl rfl) (pe_lst pa_nil))
     (pss_cons (ps_for PassesOwn.never rfl (pi_enumT (by rfl) T.b_enumerate (pa_cons (pe_ix ix_tup (pv 0) pe_int (fun _ _ => rfl)) pa_nil)) (pg_tup (by rfl) (pgs_cons (pg_name (i := 5) sc_refined.nd rfl (Or.inl rfl)) (pgs_cons (pg_name (i := 6) sc_refined.nd rfl (Or.inr rfl)) pgs_nil)))
     (pss_cons (ps_set (i := 7) sc_refined.nd rfl (Or.inl rfl) (pe_tup (pa_cons (pe_ix ix_list (pv 1) (pv 5) (fun _ _ => rfl)) (pa_cons (pe_callTy call_tuple_of (by rfl) T.b_tuple (by decide +kernel) (pa_cons (pe_lc (own := [("letter", 8)]) (te := (tOp (rIxL K) (tVar 1) (tOp (rIxT K) (tVar 6) (tVar 8)))) (by rfl) sc_refined.nd (pi_range1 (by rfl) T.b_range (pa_cons (pv 2) pa_nil)) (blkOk_by (N := N_refined) (sc := (defScope s_refined)) (by decide +kernel)) (fun _ _ _ _ _ => (pg_name (i := 8) sc_refined.nd rfl (Or.inl rfl))) (fun _ _ _ _ _ => pts_nil) (fun _ _ _ _ _ => (pe_ix ix_list (pv 1) (pe_ix ix_tup (pv 6) (pv 8) (fun _ _ => rfl)) (fun _ _ => rfl)))) pa_nil)) pa_nil))))
     (pss_cut (ps_if (pt_cmpR (op_ndNot (hu65 hr)) (pv 7) (pv 3) (by rfl))
     (pss_one (ps_asg (pv 5) (pg_sub (pv 3) (pv 7) (set_nd (hu65 hr)))))
     pss_nil)
     (pss_one (ps_expr (pe_bm PySem.F.plainAttrs_list PySem.F.slot_list_append PySem.F.type_list_append mt_append (pv 4) (pa_cons (pe_ndGet (hu65 hr) (pv 3) (pv 7) (fun _ _ => rfl)) pa_nil)))))))
     (pss_one (ps_ret (pv 4))))))), ?_⟩
  obtain ⟨mv, g, m, gs, rfl, hm, wf, hg, hl, k⟩ := h
  obtain ⟨a, b, d, rs, rfl, ha, hb, hrs, hd⟩ := id hm
  refine ⟨_, rfl, a, _, _, _, rfl, rfl, SqT.of ha, at_nat (j := 0) rfl rfl, ?_⟩
  intro d0 hd0 H1 e1 nd0
  refine ⟨by decide, fun r0 hr0 => ?_⟩
  have n1 : H1 d0 ≠ none := fun z => by obtain ⟨_, _, _, _, _, q⟩ := nd0; rw [z] at q; cases q
  have nrd : d0 ≠ r0 := fun z => n1 (by rw [z]; exact hr0)
  have e2 : Ex H (upd H1 r0 (.lst [])) := Ex.trans e1 (Ex.new hr0)
  have hr0' : H r0 = none := fresh_back e1 hr0
  refine ⟨_, rfl, a, _, _, _, rfl, rfl, SqT.of (e2 a _ ha), at_nat (j := 2) rfl rfl, b, rs, rfl, SqT.of (e2 b _ hb), for_it walk_enumT (fun i σ H2 => ∃ s5 s6 s7 s8 kvs, σ = [some (V.ref a), some (V.ref g), some (nv m.k), some (V.ref d0), some (V.ref r0), s5, s6, s7, s8] ∧
    Ex H H2 ∧ NdAt P w H2 d0 kvs ∧ kvs.length ≤ i ∧ (∀ x : SK, valV kvs x = if x ∈ (m.signs gs).take i then some (nv (Mai.idx (m.signs gs) x)) else none) ∧ H2 r0 = some (.lst (nvs ((m.refined gs).take i))))
    ⟨_, _, _, _, [], rfl, e2, nd0.keep (fun a ys e' => (tk_new hr0).at e') (upd_ne nrd), Nat.le_refl _, fun x => by simp [valV], by rw [upd_same]; simp⟩ (fun i σ H2 _ ⟨_, _, _, _, _, _, e, _⟩ => SqT.of (e b _ hb)) ?_ ?_⟩
  · rintro i x σ H2 H3 hi ⟨s5, s6, s7, s8, kvs, rfl, e, nd, hk, hv, hr⟩ ⟨T, x1, x2, rfl, hT, rfl, hx1, hx2⟩
    cases hx1
    obtain ⟨row, hrow, a2, rfl, ha2⟩ := hrs.of hx2
    have hin : i < m.n := by
      have := (List.getElem?_eq_some_iff.mp hrow).1
      rw [wf.len] at this
      exact this
    have erow : row = m.row i := by rw [row_get wf hin] at hrow; exact (Option.some.inj hrow).symm
    subst erow
    have e3 : Ex H (upd H2 T (.tup [.int (i : Nat), .ref a2])) := Ex.trans e (Ex.new hT)
    refine ⟨T, _, rfl, SqT.of upd_same, rfl, _, _, rfl, _, _, rfl, rfl, ?_⟩
    refine ⟨_, rfl, _, rfl, g, _, _, _, rfl, rfl, SqL.of (e3 g _ hg), at_nat rfl (nvs_get (getD_some (by rw [hl]; exact hin))), ?_⟩
    refine ⟨_, rfl, _, rfl, by have := wf.k4; omega, by have := wf.k4; omega, fun D hD => lc_w hD (walk_range.mono (fun _ _ => trivial) fun _ _ _ _ _ _ y => y) (fun _ => rfl) (fun j v _ => v = nv (gs.getD (m.step i j) 0)) (fun _ _ _ _ _ h _ _ => h) (fun _ _ _ _ h _ => h) ?_ (by have := wf.k4; show (m.k : Int).toNat < _; omega) ?_⟩
    · rintro j x Hj Hj' hj ej _ ⟨rfl, rfl⟩ Q' kq
      have hjk : j < m.k := hj
      obtain ⟨g1, g2⟩ := step_get wf hin hjk
      refine ⟨_, rfl, _, rfl, _, rfl, a2, _, _, _, rfl, rfl, SqT.of (ej a2 _ (e3 a2 _ ha2)), at_nat (by omega) (nvs_get g1), ?_⟩
      exact ⟨g, _, _, _, rfl, rfl, SqL.of (ej g _ (e3 g _ hg)), at_nat rfl (nvs_get (getD_some (by rw [hl]; exact g2))), kq _ _ (Ex.refl _) (by intro z; cases z) rfl⟩
    · intro H5 acc e5 hacc hal hap
      have eacc : acc = nvs ((m.row i).map fun t => gs.getD t 0) := by
        rw [map_step wf hin, List.map_map]
        unfold nvs
        rw [List.map_map]
        exact vals_range hal hap
      subst eacc
      refine ⟨D, _, rfl, .inl ⟨SqL.of hacc, fun l hl5 => ?_⟩⟩
      refine ⟨sz2, fun t ht => ?_⟩
      have hlt : l ≠ t := ne_of_none upd_same ht
      have e6 : Ex (upd H2 T (.tup [.int (i : Nat), .ref a2])) (upd (upd H5 l (.tup (nvs ((m.row i).map fun t => gs.getD t 0)))) t (.tup [nv (gs.getD i 0), .ref l])) := e5.trans ((Ex.new hl5).trans (Ex.new ht))
      have e7 := e3.trans e6
      have key : KeyN (upd (upd H5 l (.tup (nvs ((m.row i).map fun t => gs.getD t 0)))) t (.tup [nv (gs.getD i 0), .ref l])) t (m.sign gs i) := ⟨l, upd_same, by rw [upd_ne hlt, upd_same]; rfl⟩
      have nd6 := ndAt_ex nd ((Ex.new hT).trans e6)
      have hr6 := ((Ex.new hT).trans e6) r0 _ hr
      generalize upd (upd H5 l (.tup (nvs ((m.row i).map fun t => gs.getD t 0)))) t (.tup [nv (gs.getD i 0), .ref l]) = H6 at *
      have hsi : (m.signs gs)[i]? = some (m.sign gs i) := by
        unfold Mai.Mach.signs
        rw [List.getElem?_map, List.getElem?_range hin]
        rfl
      refine ⟨fun σ' H7 => ∃ kvs', σ' = [some (V.ref a), some (V.ref g), some (nv m.k), some (V.ref d0), some (V.ref r0), some (.int (i : Nat)), some (.ref a2), some (.ref t), s8] ∧ Ex H H7 ∧ NdAt P w H7 d0 kvs' ∧ kvs'.length ≤ i + 1 ∧
        (∀ x : SK, valV kvs' x = if x ∈ (m.signs gs).take (i + 1) then some (nv (Mai.idx (m.signs gs) x)) else none) ∧ H7 r0 = some (.lst (nvs ((m.refined gs).take i))) ∧ KeyN H7 t (m.sign gs i), ?_, ?_⟩
      · refine ⟨_, rfl, _, rfl, t, d0, _, kvs, rfl, rfl, key, nd6, _, rfl, ?_⟩
        rw [hv]
        by_cases c : m.sign gs i ∈ (m.signs gs).take i
        · rw [if_pos c]
          refine iteF ⟨kvs, rfl, e7, nd6, by omega, fun x => ?_, hr6, key⟩
          rw [hv, take_succ' hsi]
          have : x ∈ (m.signs gs).take i ++ [m.sign gs i] ↔ x ∈ (m.signs gs).take i := by
            rw [List.mem_append, List.mem_singleton]
            exact ⟨fun h => h.elim id fun z => by rw [z]; exact c, .inl⟩
          simp only [this]
        · rw [if_neg c]
          have hnone : valV kvs (m.sign gs i) = none := by rw [hv, if_neg c]
          refine iteT ⟨_, rfl, _, rfl, _, rfl, t, d0, _, kvs, rfl, rfl, key, nd6, szl (by have := wf.n30; unfold Mai.Mach.n at hin; omega), fun H7 k7 f7 nd7 => ?_⟩
          have nt : ∀ a ys, H6 a = some (.tup ys) → a ≠ d0 := fun a ys q z => by
            obtain ⟨_, _, _, _, _, q2⟩ := nd6
            rw [z, q2] at q
            cases q
          refine ⟨_, rfl, fun b o q => ?_, nd7, ?_, fun x => ?_, ?_, key.keep fun a ys q => k7 a _ (nt a ys q) q⟩
          · exact k7 b o (ne_of_none q hd0) (e7 b o q)
          · rw [putK_new _ hnone, List.length_append]
            show kvs.length + 1 ≤ i + 1
            omega
          · have hix : Mai.idx (m.signs gs) (m.sign gs i) = i := by
              have h1 : Mai.idx (m.signs gs) (m.sign gs i) ≤ i := Mai.idxOf_le hsi
              by_cases h2 : Mai.idx (m.signs gs) (m.sign gs i) = i
              · exact h2
              · refine absurd ?_ c
                have h3 := Mai.idx_get (List.mem_of_getElem? hsi)
                refine List.mem_of_getElem? (i := Mai.idx (m.signs gs) (m.sign gs i)) ?_
                rw [List.getElem?_take, if_pos (by omega)]
                exact h3
            rw [take_succ' hsi, putK_new _ hnone]
            by_cases cx : x = m.sign gs i
            · rw [cx, if_pos (by simp), hix]
              rw [valV_app_none hnone]
              exact valV_pos rfl
            · rw [valV_app_ne fun z => cx z.symm, hv]
              have : x ∈ (m.signs gs).take i ++ [m.sign gs i] ↔ x ∈ (m.signs gs).take i := by
                rw [List.mem_append, List.mem_singleton]
                exact ⟨fun h => h.elim id fun z => absurd z cx, .inl⟩
              simp only [this]
          · exact k7 r0 _ (Ne.symm nrd) hr6
      · rintro σ' H7 ⟨kvs', rfl, e7', nd7, hk7, hv7, hr7, key7⟩
        have hval : valV kvs' (m.sign gs i) = some (nv (Mai.idx (m.signs gs) (m.sign gs i))) := by
          rw [hv7, take_succ' hsi, if_pos (by simp)]
        refine ⟨_, rfl, .inl ⟨rfl, _, SqL.of hr7⟩, _, rfl, _, rfl, t, d0, _, kvs', _, rfl, rfl, key7, nd7, hval, r0, _, _, rfl, rfl, hr7, szl ?_, ?_⟩
        · rw [nvs_len, List.length_take]
          have := wf.n30
          unfold Mai.Mach.n at hin
          omega
        · refine ⟨_, _, _, _, kvs', rfl, Ex.mut e7' hr0', nd7.keep (fun a ys e' => (tk_upd hr7 (fun z => z)).at e') (upd_ne nrd), hk7, hv7, ?_⟩
          rw [upd_same]
          have : (m.refined gs)[i]? = some (Mai.idx (m.signs gs) (m.sign gs i)) := canon_at hsi
          rw [take_succ' this, nvs_app]
          rfl
  · rintro σ H2 ⟨s5, s6, s7, s8, kvs, rfl, e, nd, hk, hv, hr⟩
    refine ⟨_, rfl, k r0 H2 e hr0' ?_⟩
    rw [hr, hrs.len, wf.len]
    have : (m.refined gs).length = m.ou.length := by
      unfold Mai.Mach.refined
      rw [Mai.canon_length, Mai.Mach.signs_length]
      rfl
    rw [List.take_of_length_le (by omega)]

theorem ok_classes {f : Addr} {fd : FuncData} (T : Tx K mg c) (D_refined : Dfn P w K mg base CX0 1 "refined" p_refined (sp_refined P w K c)) (F : FnP K "classes" "classes" s_classes f fd) : FnOk P w K mg base CX0 2 f fd p_classes (sp_classes P w K c) := by
  refine F.ok sc_classes (fun vs H Q E h => by obtain ⟨_, _, rfl, _⟩ := h; rfl) (fun cdv A outer s H vs Q E hr h => ?_)
  refine ⟨_, PSs.nox (pss_cons (ps_set (i := 1) sc_classes.nd rfl (Or.inr rfl) (pe_ix ix_tup (pv 0) pe_int (fun _ _ => rfl)))
     (pss_cons (ps_setLc (i := 2) (own := [("output", 4)]) (te := (tBMT (rTupIdx K) (tVar 1) (tCons (tVar 4) tNil))) rfl sc_classes.nd rfl rfl (sw_true rfl rfl rfl (by decide +kernel)) (pi_tup (pv 1)) (blkOk_by (N := N_classes) (sc := (defScope s_classes)) (by decide +kernel)) (fun _ _ _ _ _ => (pg_name (i := 4) sc_classes.nd rfl (Or.inl rfl))) (fun _ _ _ _ _ => pts_nil) (fun _ _ _ _ _ => (pe_bmT PySem.F.slot_tuple_index PySem.F.type_tuple_index mt_tupIdx (pv 1) (pa_cons (pv 4) pa_nil))))
     (pss_cons (ps_for PassesOwn.never rfl (pi_range1 (by rfl) T.b_range (pa_cons (pe_callB call_len_seq (by rfl) T.b_len PySem.boot_len (pa_cons (pv 1) pa_nil)) pa_nil)) (pg_name (i := 3) sc_classes.nd rfl (Or.inl rfl))
     (pss_one (ps_set (i := 2) sc_classes.nd rfl (Or.inl rfl) (pe_c D_refined (hr.mono (by decide)) (pa_cons (pv 0) (pa_cons (pv 2) pa_nil))))))
     (pss_one (ps_ret (pv 2)))))), ?_⟩
  obtain ⟨mv, m, rfl, hm, wf, k⟩ := h
  obtain ⟨a, b, d, rs, rfl, ha, hb, hrs, hd⟩ := id hm
  refine ⟨_, rfl, a, _, _, _, rfl, rfl, SqT.of ha, at_nat (j := 3) rfl rfl, ?_⟩
  refine ⟨_, rfl, d, rfl, ⟨_, sqT_rd hd.rd⟩, fun D hD => lc_w hD (walk_tup.mono (fun H2 e => sqT_rd ((tk_ex e).rd hd.rd)) fun _ _ _ _ _ _ y => y) (fun _ => rfl) (fun i v _ => ∀ y, m.ou[i]? = some y → v = nv (Mai.idx m.ou y)) (fun _ _ _ _ _ h _ _ => h) (fun _ _ _ _ h _ => h) ?_ (by rw [nvs_len]; have := wf.n30; omega) ?_⟩
  · rintro i x H2 H3 hi e2 _ ⟨rfl, hx⟩ Q' kq
    obtain ⟨y, hy, rfl⟩ := nvs_of hx
    have hmem := List.mem_of_getElem? hy
    obtain ⟨g1, g2⟩ := idx_izs hmem
    refine ⟨_, rfl, d, _, rfl, (tk_ex e2).fz hd, _, rfl, d, izs m.ou, _, _, rfl, rfl, ?_, g1, g2, kq _ _ (Ex.refl _) (by intro z; cases z) fun z hz => ?_⟩
    · rw [← nvs_izs]
      exact sqT_rd ((tk_ex e2).rd hd.rd)
    · rw [hy] at hz
      cases hz
      rfl
  intro H2 acc e2 hacc hal hap
  have eacc : acc = nvs (m.clsN 0) := by
    show acc = nvs (Mai.canon m.ou)
    unfold Mai.canon nvs
    rw [List.map_map]
    exact vals_each (by rw [hal, nvs_len]) fun i v x h1 h2 => hap i v h1 x h2
  subst eacc
  refine ⟨_, rfl, d, _, rfl, .inr (sqT_rd ((tk_ex e2).rd hd.rd)), _, rfl, by rw [nvs_len]; omega, by rw [nvs_len]; have := wf.n30; omega, for_range (fun i σ H3 => ∃ s3 s4 r, σ = [some (V.ref a), some (V.ref d), some (V.ref r), s3, s4] ∧ Ex H H3 ∧ H r = none ∧ H3 r = some (.lst (nvs (m.clsN i)))) ⟨_, _, D, rfl, e2, hD, hacc⟩ ?_ ?_⟩
  · rintro i σ H3 hi ⟨s3, s4, r, rfl, e3, hr0, hr3⟩
    exact ⟨_, rfl, _, rfl, _, r, m, _, rfl, hm.ma.keep (tk_ex e3), wf, hr3, Mai.Mach.clsN_length m i, fun r' H' e' h1 h2 => ⟨_, _, r', rfl, e3.trans e', fresh_back e3 h1, h2⟩⟩
  · rintro σ H3 ⟨s3, s4, r, rfl, e3, hr0, hr3⟩
    refine ⟨_, rfl, k r H3 e3 hr0 ?_⟩
    rw [hr3, nvs_len]
    rfl

theorem ok_met_states {f : Addr} {fd : FuncData} (T : Tx K mg c)  (F : FnP K "met_states" "met_states" s_met_states f fd) : FnOk P w K mg base CX0 1 f fd p_met_states (sp_met_states P w K c) := by
  refine F.ok sc_met_states (fun vs H Q E h => by obtain ⟨_, _, _, rfl, _⟩ := h; rfl) (fun cdv A outer s H vs Q E hr h => ?_)
  refine ⟨_, PSs.nox (pss_cons (ps_set (i := 2) sc_met_states.nd rfl (Or.inl rfl) (pe_lst (pa_cons (pe_ix ix_list (pv 1) pe_int (fun _ _ => rfl)) pa_nil)))
     (pss_cons (ps_set (i := 3) sc_met_states.nd rfl (Or.inl rfl) pe_int)
     (pss_cons (ps_while PassesOwn.never (pt_cmpR op_lt (pv 3) (pe_callB call_len_seq (by rfl) T.b_len PySem.boot_len (pa_cons (pv 2) pa_nil)) (by rfl))
     (pss_cons (ps_for PassesOwn.never rfl (pi_tup (pe_ix ix_tup (pe_ix ix_tup (pv 0) pe_int (fun _ _ => rfl)) (pe_ix ix_list (pv 2) (pv 3) (fun _ _ => rfl)) (fun _ _ => rfl))) (pg_name (i := 4) sc_met_states.nd rfl (Or.inl rfl))
     (pss_one (ps_if (pt_cmpR op_notIn_seq (pe_ix ix_list (pv 1) (pv 4) (fun _ _ => rfl)) (pv 2) (by rfl))
     (pss_one (ps_expr (pe_bm PySem.F.plainAttrs_list PySem.F.slot_list_append PySem.F.type_list_append mt_append (pv 2) (pa_cons (pe_ix ix_list (pv 1) (pv 4) (fun _ _ => rfl)) pa_nil))))
     pss_nil)))
     (pss_one (ps_aug (i := 3) sc_met_states.nd rfl (Or.inl rfl) pe_int ip_add))))
     (pss_one (ps_ret (pv 2)))))), ?_⟩
  obtain ⟨mv, g, m, rfl, hm, wf, hg, k⟩ := h
  obtain ⟨a, b, d, rs, rfl, ha, hb, hrs, hd⟩ := id hm
  have hcl : m.cls.length = m.n := Mai.Mach.clsN_length m m.n
  have hn0 := wf.n0
  have hn30 : m.n ≤ 30 := wf.n30
  refine ⟨_, rfl, _, _, _, _, rfl, rfl, SqL.of hg, at_nat (j := 0) rfl (nvs_get (getD_some (by omega))), sz1, fun r0 hr0 => ?_⟩
  have e1 : Ex H (upd H r0 (.lst [nv (m.cls.getD 0 0)])) := Ex.new hr0
  refine ⟨fun mm σ H2 => ∃ (s4 : Option V) (i : Nat) (o : List Nat), mm = 31 - i ∧ σ = [some (V.ref a), some (V.ref g), some (V.ref r0), some (nv i), s4] ∧ Ex H H2 ∧ H2 r0 = some (.lst (nvs o)) ∧ m.OrdOk o ∧ i ≤ o.length ∧ m.metLoop m.cls (31 - i) i o = m.met m.cls, ⟨31, none, 0, [m.cls.getD 0 0], rfl, rfl, e1, upd_same, Mai.Mach.start_ok wf, Nat.zero_le _, rfl⟩, ?_⟩
  rintro mm σ H2 ⟨s4, i, o, rfl, rfl, e2, hr2, ok, hi, hloop⟩
  have hle := ok.le
  refine ⟨_, rfl, _, rfl, r0, _, rfl, .inl (SqL.of hr2), _, _, rfl, rfl, _, rfl, ?_⟩
  rw [nvs_len]
  by_cases c : i < o.length
  · refine iteP (decide_eq_true (by omega)) ⟨fun σ' H' => ∃ (s4 : Option V) (o' : List Nat), σ' = [some (V.ref a), some (V.ref g), some (V.ref r0), some (nv (i + 1)), s4] ∧ Ex H H' ∧ H' r0 = some (.lst (nvs o')) ∧ m.OrdOk o' ∧ i + 1 ≤ o'.length ∧ m.metLoop m.cls (31 - (i + 1)) (i + 1) o' = m.met m.cls, ?_, ?_⟩
    · rintro σ' H' ⟨s4, o', e1, e2, e3, e4, e5, e6⟩
      exact ⟨31 - (i + 1), by omega, s4, i + 1, o', rfl, e1, e2, e3, e4, e5, e6⟩
    have hoi : o[i]? = some (o.getD i 0) := getD_some c
    have hos : o.getD i 0 < m.n := (ok.rep _ (List.mem_of_getElem? hoi)).1
    obtain ⟨x2, hx2, a2, rfl, ha2⟩ := hrs.get (row_get wf hos)
    refine ⟨_, rfl, a, _, _, _, rfl, rfl, SqT.of (e2 a _ ha), at_nat (j := 2) rfl rfl, _, rfl, _, rfl, r0, _, _, _, rfl, rfl, SqL.of hr2, at_nat rfl (nvs_get hoi), b, _, _, _, rfl, rfl, SqT.of (e2 b _ hb), at_nat rfl hx2, a2, rfl, ⟨_, SqT.of (e2 a2 _ ha2)⟩,
      for_tup (xs := nvs (m.row (o.getD i 0))) (fun j σ H3 => ∃ (s4 : Option V), σ = [some (V.ref a), some (V.ref g), some (V.ref r0), some (nv i), s4] ∧ Ex H H3 ∧ H3 r0 = some (.lst (nvs (Mai.Mach.metRow m.cls o ((m.row (o.getD i 0)).take j))))) ⟨_, rfl, e2, hr2⟩ (fun j σ H3 _ ⟨_, _, e, _⟩ => SqT.of (e a2 _ ha2)) ?_ ?_⟩
    · rintro j x σ H3 hx ⟨s4, rfl, e3, hr3⟩
      obtain ⟨t, ht, rfl⟩ := nvs_of hx
      have htn : t < m.n := (wf.row hos).2 t (List.mem_of_getElem? ht)
      have hgt : (nvs m.cls)[t]? = some (nv (m.cls.getD t 0)) := nvs_get (getD_some (by omega))
      have okj : m.OrdOk (Mai.Mach.metRow m.cls o ((m.row (o.getD i 0)).take j)) := ok.row wf fun t ht => (wf.row hos).2 t (List.mem_of_mem_take ht)
      have hstep : Mai.Mach.metRow m.cls o ((m.row (o.getD i 0)).take (j + 1)) = if m.cls.getD t 0 ∈ Mai.Mach.metRow m.cls o ((m.row (o.getD i 0)).take j) then Mai.Mach.metRow m.cls o ((m.row (o.getD i 0)).take j) else Mai.Mach.metRow m.cls o ((m.row (o.getD i 0)).take j) ++ [m.cls.getD t 0] := by
        rw [take_succ' ht, Mai.Mach.metRow_snoc]
      refine ⟨_, rfl, _, rfl, _, _, _, _, rfl, rfl, SqL.of (e3 g _ hg), at_nat rfl hgt, _, rfl, r0, _, rfl, .inl (SqL.of hr3), rfl, flat_nvs _, _, rfl, ?_⟩
      rw [inV_nvs]
      by_cases cm : m.cls.getD t 0 ∈ Mai.Mach.metRow m.cls o ((m.row (o.getD i 0)).take j)
      · refine iteN (by show (!decide _) = false; rw [decide_eq_true cm]; rfl) ⟨_, rfl, e3, ?_⟩
        rw [hstep, if_pos cm]
        exact hr3
      · refine iteP (by show (!decide _) = true; rw [decide_eq_false cm]; rfl) ⟨_, rfl, .inl ⟨rfl, _, SqL.of hr3⟩, _, rfl, _, rfl, _, _, _, _, rfl, rfl, SqL.of (e3 g _ hg), at_nat rfl hgt, r0, _, _, rfl, rfl, hr3, szl ?_, _, rfl, Ex.mut e3 hr0, ?_⟩
        · rw [nvs_len]
          have := okj.le
          omega
        · rw [upd_same, hstep, if_neg cm, nvs_app]
          rfl
    · rintro σ H3 ⟨s4, rfl, e3, hr3⟩
      rw [nvs_len, List.take_length] at hr3
      have ok' : m.OrdOk (Mai.Mach.metRow m.cls o (m.row (o.getD i 0))) := ok.row wf fun t ht => (wf.row hos).2 t ht
      refine ⟨_, rfl, _, _, rfl, rfl, _, _, rfl, e3, hr3, ok', ?_, ?_⟩
      · obtain ⟨x, hx⟩ := Mai.Mach.metRow_pre m.cls (m.row (o.getD i 0)) o
        rw [hx, List.length_append]
        omega
      · rw [← hloop]
        obtain ⟨f, hf⟩ : ∃ f, 31 - i = f + 1 := ⟨30 - i, by omega⟩
        rw [hf]
        show _ = (if i < o.length then _ else _)
        rw [if_pos c]
        have : 31 - (i + 1) = f := by omega
        rw [this]
  · refine iteN (decide_eq_false (by omega)) ⟨_, rfl, k r0 H2 e2 hr0 ?_⟩
    have : m.metLoop m.cls (31 - i) i o = o := by
      cases hf : 31 - i with
      | zero => rfl
      | succ f =>
        show (if i < o.length then _ else _) = _
        rw [if_neg c]
    rw [hr2, ← hloop, this]

theorem ok_least {f : Addr} {fd : FuncData} (T : Tx K mg c) (D_classes : Dfn P w K mg base CX0 2 "classes" p_classes (sp_classes P w K c)) (D_met_states : Dfn P w K mg base CX0 1 "met_states" p_met_states (sp_met_states P w K c)) (F : FnP K "least" "least" s_least f fd) : FnOk P w K mg base CX0 3 f fd p_least (sp_least P w K c) := by
  refine F.ok sc_least (fun vs H Q E h => by obtain ⟨_, _, rfl, _⟩ := h; rfl) (fun cdv A outer s H vs Q E hr h => ?_)
  refine ⟨_, PSs.nox (pss_cons (ps_asg (pv 0) (pg_tup (by rfl) (pgs_cons (pg_name (i := 1) sc_least.nd rfl (Or.inl rfl)) (pgs_cons (pg_name (i := 2) sc_least.nd rfl (Or.inl rfl)) (pgs_cons (pg_name (i := 3) sc_least.nd rfl (Or.inr rfl)) (pgs_cons (pg_name (i := 4) sc_least.nd rfl (Or.inr rfl)) pgs_nil))))))
     (pss_cons (ps_set (i := 5) sc_least.nd rfl (Or.inr rfl) (pe_c D_classes (hr.mono (by decide)) (pa_cons (pv 0) pa_nil)))
     (pss_cons (ps_set (i := 6) sc_least.nd rfl (Or.inr rfl) (pe_c D_met_states (hr.mono (by decide)) (pa_cons (pv 0) (pa_cons (pv 5) pa_nil))))
     (pss_cons (ps_set (i := 7) sc_least.nd rfl (Or.inl rfl) (pe_callTy call_tuple_of (by rfl) T.b_tuple (by decide +kernel) (pa_cons (pe_lc (own := [("old", 8)]) (te := (tCB (rTupOf K) (tCons (tLc (iTup K (tOp (rIxT K) (tVar 3) (tVar 8))) (gName 9) tYes (tBM K "list" (rIndex K) (tVar 6) (tCons (tOp (rIxL K) (tVar 5) (tVar 9)) tNil)) [9]) tNil))) (by rfl) sc_least.nd (pi_list (pv 6)) (blkOk_by (N := N_least) (sc := (defScope s_least)) (by decide +kernel)) (fun _ _ _ _ _ => (pg_name (i := 8) sc_least.nd rfl (Or.inl rfl))) (fun _ _ _ _ _ => pts_nil) (fun _ _ _ _ _ => (pe_callTy call_tuple_of (by rfl) T.b_tuple (by decide +kernel) (pa_cons (pe_lc (own := [("state", 9)]) (te := (tBM K "list" (rIndex K) (tVar 6) (tCons (tOp (rIxL K) (tVar 5) (tVar 9)) tNil))) (by rfl) sc_least.nd (pi_tup (pe_ix ix_tup (pv 3) (pv 8) (fun _ _ => rfl))) (blkOk_by (N := N_least) (sc := _) (by kernel_rfl)) (fun _ _ _ _ _ => (pg_name (i := 9) sc_least.nd rfl (Or.inl rfl))) (fun _ _ _ _ _ => pts_nil) (fun _ _ _ _ _ => (pe_bm PySem.F.plainAttrs_list PySem.F.slot_list_index PySem.F.type_list_index mt_index (pv 6) (pa_cons (pe_ix ix_list (pv 5) (pv 9) (fun _ _ => rfl)) pa_nil)))) pa_nil)))) pa_nil)))
     (pss_one (ps_ret (pe_tup (pa_cons (pv 1) (pa_cons (pv 2) (pa_cons (pv 7) (pa_cons (pe_callTy call_tuple_of (by rfl) T.b_tuple (by decide +kernel) (pa_cons (pe_lc (own := [("old", 8)]) (te := (tOp (rIxT K) (tVar 4) (tVar 8))) (by rfl) sc_least.nd (pi_list (pv 6)) (blkOk_by (N := N_least) (sc := (defScope s_least)) (by decide +kernel)) (fun _ _ _ _ _ => (pg_name (i := 8) sc_least.nd rfl (Or.inl rfl))) (fun _ _ _ _ _ => pts_nil) (fun _ _ _ _ _ => (pe_ix ix_tup (pv 4) (pv 8) (fun _ _ => rfl)))) pa_nil)) pa_nil))))))))))), ?_⟩
  obtain ⟨mv, m, rfl, hm, wf, k⟩ := h
  obtain ⟨a, b, d, rs, rfl, ha, hb, hrs, hd⟩ := id hm
  have hcl : m.cls.length = m.n := Mai.Mach.clsN_length m m.n
  have hn30 : m.n ≤ 30 := wf.n30
  have mok := (Mai.Mach.met_ok wf).1
  have mle := mok.le
  have mcl := (Mai.Mach.met_ok wf).2.2
  refine ⟨_, rfl, a, _, rfl, SqT.of ha, rfl, _, _, rfl, _, _, rfl, _, _, rfl, _, _, rfl, rfl, ?_⟩
  refine ⟨_, rfl, _, m, rfl, hm, wf, fun g H1 e1 hg0 hg => ?_⟩
  refine ⟨_, rfl, _, rfl, _, g, m, rfl, hm.ma.keep (tk_ex e1), wf, hg, fun o H2 e2 ho0 ho => ?_⟩
  have e02 := e1.trans e2
  refine ⟨_, rfl, o, rfl, ⟨_, SqL.of ho⟩, fun D hD => lc_w hD (walk_list.mono (fun H3 e => SqL.of (e o _ ho)) fun _ _ _ _ _ _ y => y) (fun _ => rfl) (fun i v H3 => ∀ s, (m.met m.cls)[i]? = some s → TW H3 v ((m.row s).map fun t => (m.met m.cls).idxOf (m.cls.getD t 0))) (fun _ _ _ _ _ h hD _ => fun s hs => tw_upd (h s hs) hD) (fun _ _ _ _ h e => fun s hs => (h s hs).keep (tk_ex e)) ?_ (by rw [nvs_len]; omega) ?_⟩
  · rintro i x H3 H3' hi e3 ⟨accD, hDD⟩ ⟨rfl, hx⟩ Q' kq
    obtain ⟨s, hs, rfl⟩ := nvs_of hx
    have hsm := List.mem_of_getElem? hs
    have hsn : s < m.n := (mok.rep s hsm).1
    obtain ⟨x2, hx2, a2, rfl, ha2⟩ := hrs.get (row_get wf hsn)
    have e03 := e02.trans e3
    refine ⟨_, rfl, _, rfl, b, _, _, _, rfl, rfl, SqT.of (e03 b _ hb), at_nat rfl hx2, a2, rfl, ⟨_, SqT.of (e03 a2 _ ha2)⟩, fun D2 hD2 => lc_w hD2 (walk_tup.mono (fun H4 e => SqT.of (e a2 _ (e03 a2 _ ha2))) fun _ _ _ _ _ _ y => y) (fun _ => rfl) (fun j v _ => ∀ t, (m.row s)[j]? = some t → v = nv ((m.met m.cls).idxOf (m.cls.getD t 0))) (fun _ _ _ _ _ h _ _ => h) (fun _ _ _ _ h _ => h) ?_ (by rw [nvs_len, (wf.row hsn).1]; have := wf.k4; omega) ?_⟩
    · rintro j x H4 H4' hj e4 _ ⟨rfl, hx⟩ Q2 kq2
      obtain ⟨t, ht, rfl⟩ := nvs_of hx
      have htm := List.mem_of_getElem? ht
      have htn : t < m.n := (wf.row hsn).2 t htm
      have hin := mcl s hsm t htm
      obtain ⟨g1, g2, g3⟩ := idx_reads hin
      have e24 := e3.trans e4
      refine ⟨_, rfl, .inl ⟨rfl, _, SqL.of (e24 o _ ho)⟩, _, rfl, _, rfl, g, _, _, _, rfl, rfl, SqL.of (e24 g _ (e2 g _ hg)), at_nat rfl (nvs_get (getD_some (by omega))), o, _, _, _, _, rfl, rfl, SqL.of (e24 o _ ho), rfl, flat_nvs _, g1, g2, g3, kq2 _ _ (Ex.refl _) (by intro z; cases z) fun t' ht' => ?_⟩
      rw [ht] at ht'
      cases ht'
      rfl
    · intro H4 acc e4 hacc hal hap
      have eacc : acc = nvs ((m.row s).map fun t => (m.met m.cls).idxOf (m.cls.getD t 0)) := by
        unfold nvs
        rw [List.map_map]
        exact vals_each (by rw [hal, nvs_len]) fun i v x h1 h2 => hap i v h1 x h2
      subst eacc
      refine ⟨D2, _, rfl, .inl ⟨SqL.of hacc, fun l hl => ?_⟩⟩
      have hl3 := fresh_back e4 hl
      refine kq _ _ (e4.trans (Ex.new hl)) (by intro z; cases z; rw [hDD] at hl3; cases hl3) fun s' hs' => ?_
      rw [hs] at hs'
      cases hs'
      exact ⟨l, rfl, upd_same⟩
  intro H3 acc e3 hacc hal hap
  have e03 := e02.trans e3
  refine ⟨D, _, rfl, .inl ⟨SqL.of hacc, fun nm hnm => ?_⟩⟩
  have e4 : Ex H3 (upd H3 nm (.tup acc)) := Ex.new hnm
  have hrows : Als (TW (upd H3 nm (.tup acc))) acc m.least.mv := by
    refine Als.each (by rw [hal, nvs_len]) fun i v s h1 h2 => ?_
    exact (hap i v h1 s h2).keep (tk_ex e4)
  have hnm' : upd H3 nm (.tup acc) nm = some (.tup acc) := upd_same
  generalize upd H3 nm (.tup acc) = H4 at *
  have e24 := e3.trans e4
  have e04 := e02.trans e24
  refine ⟨_, rfl, _, rfl, _, rfl, _, rfl, o, rfl, ⟨_, SqL.of (e24 o _ ho)⟩, fun D2 hD2 => lc_w hD2 (walk_list.mono (fun H5 e => SqL.of (e o _ (e24 o _ ho))) fun _ _ _ _ _ _ y => y) (fun _ => rfl) (fun i v _ => ∀ s, (m.met m.cls)[i]? = some s → v = nv (m.at_ s)) (fun _ _ _ _ _ h _ _ => h) (fun _ _ _ _ h _ => h) ?_ (by rw [nvs_len]; omega) ?_⟩
  · rintro i x H5 H5' hi e5 _ ⟨rfl, hx⟩ Q' kq
    obtain ⟨s, hs, rfl⟩ := nvs_of hx
    have hsn : s < m.n := (mok.rep s (List.mem_of_getElem? hs)).1
    refine ⟨_, rfl, _, rfl, d, _, _, _, rfl, rfl, sqT_rd ((tk_ex (e04.trans e5)).rd hd.rd), at_nat rfl (nvs_get (at_get hsn)), kq _ _ (Ex.refl _) (by intro z; cases z) fun s' hs' => ?_⟩
    rw [hs] at hs'
    cases hs'
    rfl
  · intro H5 acc2 e5 hacc2 hal2 hap2
    have eacc : acc2 = nvs m.least.ou := by
      show acc2 = nvs ((m.met m.cls).map fun s => m.at_ s)
      unfold nvs
      rw [List.map_map]
      exact vals_each (by rw [hal2, nvs_len]) fun i v x h1 h2 => hap2 i v h1 x h2
    subst eacc
    refine ⟨D2, _, rfl, .inl ⟨SqL.of hacc2, fun l hl => ⟨sz4, fun p hp => ?_⟩⟩⟩
    have e6 := (Ex.new (o := HO.tup (nvs m.least.ou)) hl).trans (Ex.new (o := HO.tup [nv m.k, nv m.o, .ref nm, .ref l]) hp)
    have e46 := e5.trans e6
    refine k _ _ (e04.trans e46) ⟨p, nm, l, acc, rfl, upd_same, e46 nm _ hnm', hrows.mono fun _ _ _ q => q.keep (tk_ex e46), .inl ?_⟩
    rw [upd_ne (ne_of_none upd_same hp), upd_same]

theorem ok_is_machine {f : Addr} {fd : FuncData} (T : Tx K mg c)  (F : FnP K "is_machine" "is_machine" s_is_machine f fd) : FnOk P w K mg base CX0 1 f fd p_is_machine (sp_is_machine P w K c) := by
  refine F.ok sc_is_machine (fun vs H Q E h => by obtain ⟨_, _, rfl, _⟩ := h; rfl) (fun cdv A outer s H vs Q E hr h => ?_)
  refine ⟨_, PSs.nox (pss_cons (ps_if (pt_cmpR op_ne (pe_callB call_len_seq (by rfl) T.b_len PySem.boot_len (pa_cons (pv 0) pa_nil)) pe_int (by rfl))
     (pss_one (ps_ret pe_bl))
     pss_nil)
     (pss_cons (ps_asg (pv 0) (pg_tup (by rfl) (pgs_cons (pg_name (i := 1) sc_is_machine.nd rfl (Or.inl rfl)) (pgs_cons (pg_name (i := 2) sc_is_machine.nd rfl (Or.inr rfl)) (pgs_cons (pg_name (i := 3) sc_is_machine.nd rfl (Or.inl rfl)) (pgs_cons (pg_name (i := 4) sc_is_machine.nd rfl (Or.inl rfl)) pgs_nil))))))
     (pss_cons (ps_set (i := 5) sc_is_machine.nd rfl (Or.inr rfl) (pe_callB call_len_seq (by rfl) T.b_len PySem.boot_len (pa_cons (pv 3) pa_nil)))
     (pss_cons (ps_if (PW.pt (pw_or (pt_not (pt_chain op_le op_le pe_int (pv 1) (pe_gi rfl T.c_MAX_LETTERS))) (pw_or1 (pt_not (pt_chain op_le op_le pe_int (pv 2) (pe_gi rfl T.c_MAX_OUTS))))))
     (pss_one (ps_ret pe_bl))
     pss_nil)
     (pss_cons (ps_if (PW.pt (pw_or (pt_not (pt_chain op_le op_le pe_int (pv 5) (pe_gi rfl T.c_MAX_STATES))) (pw_or1 (pt_cmpR op_ne (pe_callB call_len_seq (by rfl) T.b_len PySem.boot_len (pa_cons (pv 4) pa_nil)) (pv 5) (by rfl)))))
     (pss_one (ps_ret pe_bl))
     pss_nil)
     (pss_cons (ps_for PassesOwn.never rfl (pi_tup (pv 3)) (pg_name (i := 6) sc_is_machine.nd rfl (Or.inl rfl))
     (pss_one (ps_if (PW.pt (pw_or (pt_cmpR op_ne (pe_callB call_len_seq (by rfl) T.b_len PySem.boot_len (pa_cons (pv 6) pa_nil)) (pv 1) (by rfl)) (pw_or1 (pt_not (pt_val (pe_callB (cr_all rfl) (by rfl) T.b_all (by decide +kernel) (pa_cons (pe_lc (own := [("state", 8)]) (te := (tChain (rI0 fun i j => .bl (decide (i ≤ j))) (rI0 fun i j => .bl (decide (i < j))) (tC (.int 0)) (tVar 8) (tVar 5))) (by rfl) sc_is_machine.nd (pi_tup (pv 6)) (blkOk_by (N := N_is_machine) (sc := (defScope s_is_machine)) (by decide +kernel)) (fun _ _ _ _ _ => (pg_name (i := 8) sc_is_machine.nd rfl (Or.inl rfl))) (fun _ _ _ _ _ => pts_nil) (fun _ _ _ _ _ => (pe_chain op_le op_lt pe_int (pv 8) (pv 5)))) pa_nil)))))))
     (pss_one (ps_ret pe_bl))
     pss_nil)))
     (pss_one (ps_ret (pe_callB (cr_all rfl) (by rfl) T.b_all (by decide +kernel) (pa_cons (pe_lc (own := [("output", 7)]) (te := (tChain (rI0 fun i j => .bl (decide (i ≤ j))) (rI0 fun i j => .bl (decide (i < j))) (tC (.int 0)) (tVar 7) (tVar 2))) (by rfl) sc_is_machine.nd (pi_tup (pv 4)) (blkOk_by (N := N_is_machine) (sc := (defScope s_is_machine)) (by decide +kernel)) (fun _ _ _ _ _ => (pg_name (i := 7) sc_is_machine.nd rfl (Or.inl rfl))) (fun _ _ _ _ _ => pts_nil) (fun _ _ _ _ _ => (pe_chain op_le op_lt pe_int (pv 7) (pv 2)))) pa_nil)))))))))), ?_⟩
  obtain ⟨mv, m, rfl, hm, wf, k⟩ := h
  obtain ⟨a, b, d, rs, rfl, ha, hb, hrs, hd⟩ := id hm
  have k1 := wf.k1
  have k4 := wf.k4
  have o1 := wf.o1
  have o6 := wf.o6
  have n1 : 1 ≤ m.n := wf.n1
  have n30 : m.n ≤ 30 := wf.n30
  have hrl : rs.length = m.n := by rw [hrs.len]; exact wf.len
  have hol : (nvs m.ou).length = m.n := nvs_len _
  refine ⟨_, rfl, a, _, rfl, .inr (SqT.of ha), rfl, _, rfl, iteN (by simp) ?_⟩
  refine ⟨_, rfl, a, _, rfl, SqT.of ha, rfl, _, _, rfl, _, _, rfl, _, _, rfl, _, _, rfl, rfl, ?_⟩
  refine ⟨_, rfl, b, _, rfl, .inr (SqT.of hb), ?_⟩
  refine ⟨_, rfl, _, _, rfl, rfl, _, rfl, iteP (decide_eq_true (by omega)) ⟨_, _, rfl, rfl, _, rfl, iteN (by rw [decide_eq_true (by omega)]; rfl) ?_⟩⟩
  refine ⟨_, rfl, _, _, rfl, rfl, _, rfl, iteP (decide_eq_true (by omega)) ⟨_, _, rfl, rfl, _, rfl, iteN (by rw [decide_eq_true (by omega)]; rfl) ?_⟩⟩
  refine ⟨_, rfl, _, _, rfl, rfl, _, rfl, iteP (decide_eq_true (by omega)) ⟨_, _, rfl, rfl, _, rfl, iteN (by rw [decide_eq_true (by omega)]; rfl) ?_⟩⟩
  refine ⟨_, rfl, d, _, rfl, .inr (sqT_rd hd), _, rfl, rfl, _, rfl, iteN (by rw [hol, hrl]; simp) ?_⟩
  refine ⟨_, rfl, b, rfl, ⟨_, SqT.of hb⟩, for_tup (xs := rs) (fun i σ H2 => ∃ (s6 s7 s8 : Option V), σ = [some (V.ref a), some (nv m.k), some (nv m.o), some (V.ref b), some (V.ref d), some (V.int rs.length), s6, s7, s8] ∧ Ex H H2) ⟨_, _, _, rfl, Ex.refl H⟩ (fun i σ H2 _ ⟨_, _, _, _, e⟩ => SqT.of (e b _ hb)) ?_ ?_⟩
  · rintro i x σ H2 hx ⟨s6, s7, s8, rfl, e2⟩
    obtain ⟨row, hrow, a2, rfl, ha2⟩ := hrs.of hx
    have hin : i < m.n := by
      have := (List.getElem?_eq_some_iff.mp hrow).1
      rw [wf.len] at this
      exact this
    have erow : row = m.row i := by rw [row_get wf hin] at hrow; exact (Option.some.inj hrow).symm
    subst erow
    have hrl2 : (nvs (m.row i)).length = m.k := by rw [nvs_len]; exact (wf.row hin).1
    refine ⟨_, rfl, a2, _, rfl, .inr (SqT.of (e2 a2 _ ha2)), _, rfl, rfl, _, rfl, iteN (by rw [hrl2]; simp [nv]) ?_⟩
    refine ⟨_, rfl, a2, rfl, ⟨_, SqT.of (e2 a2 _ ha2)⟩, fun D hD => lc_w hD (walk_tup.mono (fun H3 e => SqT.of (e a2 _ (e2 a2 _ ha2))) fun _ _ _ _ _ _ y => y) (fun _ => rfl) (fun _ v _ => v = .bl true) (fun _ _ _ _ _ h _ _ => h) (fun _ _ _ _ h _ => h) ?_ (by omega) ?_⟩
    · rintro j x H3 H3' hj e3 _ ⟨rfl, hx⟩ Q' kq
      obtain ⟨t, ht, rfl⟩ := nvs_of hx
      have htn : t < m.n := (wf.row hin).2 t (List.mem_of_getElem? ht)
      refine ⟨_, rfl, _, _, rfl, rfl, _, rfl, iteP (decide_eq_true (by omega)) ⟨_, rfl, _, _, rfl, rfl, ?_⟩⟩
      exact kq _ _ (Ex.refl _) (by intro z; cases z) (congrArg V.bl (decide_eq_true (by omega)))
    · intro H3 acc e3 hacc hal hap
      have := trues hal hap
      subst this
      refine ⟨D, _, rfl, SqL.of hacc, _, rfl, iteN (by rw [all_true]; rfl) ⟨_, _, _, rfl, e2.trans e3⟩⟩
  · rintro σ H2 ⟨s6, s7, s8, rfl, e2⟩
    refine ⟨_, rfl, d, rfl, ⟨_, sqT_rd ((tk_ex e2).rd hd)⟩, fun D hD => lc_w hD (walk_tup.mono (fun H3 e => sqT_rd ((tk_ex (e2.trans e)).rd hd)) fun _ _ _ _ _ _ y => y) (fun _ => rfl) (fun _ v _ => v = .bl true) (fun _ _ _ _ _ h _ _ => h) (fun _ _ _ _ h _ => h) ?_ (by omega) ?_⟩
    · rintro j x H3 H3' hj e3 _ ⟨rfl, hx⟩ Q' kq
      obtain ⟨t, ht, rfl⟩ := nvs_of hx
      have htn : t < m.o := wf.ous t (List.mem_of_getElem? ht)
      refine ⟨_, rfl, _, _, rfl, rfl, _, rfl, iteP (decide_eq_true (by omega)) ⟨_, rfl, _, _, rfl, rfl, ?_⟩⟩
      exact kq _ _ (Ex.refl _) (by intro z; cases z) (congrArg V.bl (decide_eq_true (by omega)))
    · intro H3 acc e3 hacc hal hap
      have := trues hal hap
      subst this
      refine ⟨D, _, rfl, SqL.of hacc, ?_⟩
      rw [all_true]
      exact k H3 (e2.trans e3)

theorem ok_check_machine {f : Addr} {fd : FuncData} (T : Tx K mg c) (D_is_machine : Dfn P w K mg base CX0 1 "is_machine" p_is_machine (sp_is_machine P w K c)) (F : FnP K "check_machine" "check_machine" s_check_machine f fd) : FnOk P w K mg base CX0 2 f fd p_check_machine (sp_check_machine P w K c) := by
  refine F.ok sc_check_machine (fun vs H Q E h => by obtain ⟨_, _, rfl, _⟩ := h; rfl) (fun cdv A outer s H vs Q E hr h => ?_)
  refine ⟨_, PSs.nox (pss_one (ps_if (pt_not (pt_val (pe_c D_is_machine (hr.mono (by decide)) (pa_cons (pv 0) pa_nil))))
     (pss_one (ps_never))
     pss_nil)), ?_⟩
  obtain ⟨mv, m, rfl, hm, wf, k⟩ := h
  exact ⟨_, rfl, _, m, rfl, hm, wf, fun H1 e1 => ⟨_, rfl, iteN rfl (k H1 e1)⟩⟩
end
end MW
/-! ## W8 -/
namespace MW
open PySem PySem.Spec PyProof.Rows L2 Evl
/-! ### words and machines as data -/
section
variable {α : Type} [DecidableEq α]
theorem eqvAll_map {f : α → PyData} (h : ∀ x y, PyData.eqv (f x) (f y) = decide (x = y)) : ∀ l r : List α, PyData.eqvAll (l.map f) (r.map f) = decide (l = r)
  | [], [] => by simp [PyData.eqvAll]
  | [], _ :: _ => by simp [PyData.eqvAll]
  | _ :: _, [] => by simp [PyData.eqvAll]
  | x :: l, y :: r => by
    rw [List.map_cons, List.map_cons, PyData.eqvAll, h, eqvAll_map h l r]
    by_cases e1 : x = y <;> by_cases e2 : l = r <;> simp [e1, e2]
theorem layAll_map {α : Type} {f : α → PyData} (h : ∀ x, (f x).canLay0 = true) : ∀ l : List α, PyData.canLayAll0 (l.map f) = true
  | [] => by simp [PyData.canLayAll0]
  | x :: l => by rw [List.map_cons, PyData.canLayAll0, h, layAll_map h l]; rfl
theorem depthAll_map {α : Type} {f : α → PyData} {n : Nat} (h : ∀ x, (f x).depth ≤ n) : ∀ l : List α, PyData.depthAll (l.map f) ≤ n
  | [] => Nat.zero_le _
  | x :: l => by
    rw [List.map_cons, PyData.depthAll]
    exact Nat.max_le.mpr ⟨h x, depthAll_map h l⟩
end
def pn (n : Nat) : PyData := .int (n : Int)
def pw (w : List Nat) : PyData := .tuple (w.map pn)
def pl (w : List Nat) : PyData := .list (w.map pn)
theorem pn_eqv (a b : Nat) : PyData.eqv (pn a) (pn b) = decide (a = b) := by
  unfold pn
  rw [PyData.eqv]
  by_cases e : a = b
  · simp [e]
  · rw [decide_eq_false e]
    exact beq_eq_false_iff_ne.mpr (by omega)
theorem pw_eqv (a b : List Nat) : PyData.eqv (pw a) (pw b) = decide (a = b) := by unfold pw; rw [PyData.eqv]; exact eqvAll_map pn_eqv a b
theorem pl_eqv (a b : List Nat) : PyData.eqv (pl a) (pl b) = decide (a = b) := by unfold pl; rw [PyData.eqv]; exact eqvAll_map pn_eqv a b
theorem pn_lay (n : Nat) : (pn n).canLay0 = true := by simp [pn, PyData.canLay0]
theorem pn_depth (n : Nat) : (pn n).depth ≤ 0 := by simp [pn, PyData.depth]
theorem pw_lay (w : List Nat) : (pw w).canLay0 = true := by unfold pw; rw [PyData.canLay0]; exact layAll_map pn_lay w
theorem pl_lay (w : List Nat) : (pl w).canLay0 = true := by unfold pl; rw [PyData.canLay0]; exact layAll_map pn_lay w
theorem pw_depth (w : List Nat) : (pw w).depth ≤ 1 := by unfold pw; rw [PyData.depth]; exact Nat.succ_le_succ (depthAll_map pn_depth w)
theorem pl_depth (w : List Nat) : (pl w).depth ≤ 1 := by unfold pl; rw [PyData.depth]; exact Nat.succ_le_succ (depthAll_map pn_depth w)
theorem shaped_of {d : PyData} (h1 : d.canLay0 = true) (h2 : d.depth ≤ 64) : SeqAt.shaped d = true := by unfold SeqAt.shaped; rw [h1, decide_eq_true h2]; rfl
theorem pw_sh (w : List Nat) : SeqAt.shaped (pw w) = true := shaped_of (pw_lay w) (Nat.le_trans (pw_depth w) (by decide))
theorem pl_sh (w : List Nat) : SeqAt.shaped (pl w) = true := shaped_of (pl_lay w) (Nat.le_trans (pl_depth w) (by decide))
theorem list_sh {α : Type} {f : α → PyData} (h1 : ∀ x, (f x).canLay0 = true) (h2 : ∀ x, (f x).depth ≤ 10) (l : List α) : SeqAt.shaped (.list (l.map f)) = true :=
  shaped_of (by rw [PyData.canLay0]; exact layAll_map h1 l) (by rw [PyData.depth]; exact Nat.le_trans (Nat.succ_le_succ (depthAll_map h2 l)) (by decide))
section
variable {K : PySem.W.Frag} {H : Hp}
theorem dpAll_nvs : ∀ w : List Nat, DpAll K H (nvs w) (w.map pn)
  | [] => .nil
  | n :: w => .cons (.int _) (dpAll_nvs w)
theorem dp_tw {v : V} {w : List Nat} (h : TW H v w) : Dp K H v (pw w) := by
  obtain ⟨a, rfl, h⟩ := h
  exact .tup (SqT.of h) (dpAll_nvs w)
theorem dp_lw {v : V} {w : List Nat} (h : LW H v w) : Dp K H v (pl w) := by
  obtain ⟨a, rfl, h⟩ := h
  exact .lst (SqL.of h) (dpAll_nvs w)
theorem dpAll_als {α : Type} {R : V → α → Prop} {f : α → PyData} (h : ∀ v x, R v x → Dp K H v (f x)) : ∀ {vs : List V} {xs : List α}, Als R vs xs → DpAll K H vs (xs.map f)
  | [], [], _ => .nil
  | [], _ :: _, a => nomatch a.len
  | _ :: _, [], a => nomatch a.len
  | v :: vs, x :: xs, a => .cons (h v x (a.at_ 0 v x rfl rfl)) (dpAll_als h (vs := vs) (xs := xs) ⟨Nat.succ.inj a.len, fun i u y e1 e2 => a.at_ (i + 1) u y e1 e2⟩)
theorem any_eqv {α : Type} [DecidableEq α] {f : α → PyData} (h : ∀ x y, PyData.eqv (f x) (f y) = decide (x = y)) (x : α) (l : List α) : ((l.map f).any fun z => PyData.eqv z (f x)) = decide (x ∈ l) := by
  rw [List.any_map, Bool.eq_iff_iff, List.any_eq_true, decide_eq_true_eq]
  constructor
  · rintro ⟨y, hy, e⟩
    have e2 : PyData.eqv (f y) (f x) = true := e
    rw [h] at e2
    rw [← of_decide_eq_true e2]
    exact hy
  · intro hx
    exact ⟨x, hx, by show PyData.eqv (f x) (f x) = true; rw [h]; simp⟩
end
/-! ### t + u, t[i:] of words -/
section
variable {K : PySem.W.Frag} {H : Hp} {Q : VK}
theorem rcat {a b : Addr} {v w : List Nat} (ha : H a = some (.tup (nvs v))) (hb : H b = some (.tup (nvs w))) (hz : v.length + w.length < 1000000) (k : ∀ q H', Ex H H' → H' q = some (.tup (nvs (v ++ w))) → Q (.ref q) H') :
    rCatA K (.ref a) (.ref b) H Q := by
  refine ⟨a, b, _, _, rfl, rfl, SqT.of ha, SqT.of hb, by rw [nvs_len, nvs_len]; exact szle hz, fun e => ?_, fun _ e => ?_, fun _ _ p hp => ?_⟩
  · have : v = [] := List.map_eq_nil_iff.mp e
    subst this
    exact k b H (Ex.refl H) hb
  · have : w = [] := List.map_eq_nil_iff.mp e
    subst this
    exact k a H (Ex.refl H) (by rw [List.append_nil]; exact ha)
  · exact k p _ (Ex.new hp) (by rw [upd_same, nvs_app])
theorem rdrop {a : Addr} {w : List Nat} {i : Nat} (ha : H a = some (.tup (nvs w))) (hi : i ≤ w.length) (k : ∀ q H', Ex H H' → H' q = some (.tup (nvs (w.drop i))) → Q (.ref q) H') : rSlA K (.ref a) (some (i : Int)) none H Q := by
  have e1 : HT.sIx (nvs w).length 0 (some (i : Int)) = i := by
    rw [nvs_len]
    unfold HT.sIx
    simp
    split <;> omega
  have e2 : HT.sIx (nvs w).length (nvs w).length none = (nvs w).length := rfl
  refine ⟨a, _, rfl, SqT.of ha, fun ⟨z, _⟩ => ?_, fun _ p hp => ?_⟩
  · rw [e1] at z
    subst z
    exact k a H (Ex.refl H) ha
  · refine k p _ (Ex.new hp) ?_
    rw [upd_same]
    unfold cutV
    rw [e1, e2, List.take_of_length_le (by simp)]
    unfold nvs
    rw [List.map_drop]
end
/-! ### the dict of known words -/
def KnAt (H : Hp) (d : Addr) (ws : List (List Nat)) (out : List Nat → Nat) : Prop := H d = some (.dT (kd nv (ws.map fun w => (w, out w))))
theorem find_map (ws : List (List Nat)) (out : List Nat → Nat) (w : List Nat) : ((ws.map fun w => (w, out w)).find? fun p => decide (p.1 = w)) = if w ∈ ws then some (w, out w) else none := by
  induction ws with
  | nil => simp
  | cons v ws ih =>
    rw [List.map_cons, List.find?_cons]
    by_cases e : v = w
    · simp [e]
    · have : ¬ w = v := fun z => e z.symm
      simp only [e, decide_false, ih, List.mem_cons, this, false_or]
theorem kn_val (ws : List (List Nat)) (out : List Nat → Nat) (w : List Nat) : valV (kd nv (ws.map fun w => (w, out w))) (wk w) = if w ∈ ws then some (nv (out w)) else none := by
  rw [kd_val, find_map]
  by_cases e : w ∈ ws
  · rw [if_pos e, if_pos e]; rfl
  · rw [if_neg e, if_neg e]; rfl
theorem kn_get {H : Hp} {d q : Addr} {ws : List (List Nat)} {out : List Nat → Nat} {w : List Nat} (h : KnAt H d ws out) (hq : H q = some (.tup (nvs w))) : DGet H d (.ref q) (if w ∈ ws then some (nv (out w)) else none) := by
  rw [← kn_val]
  exact .inr ⟨_, wk w, q, .inl h, rfl, by rw [wk_kV]; exact hq, rfl⟩
theorem kn_some {H : Hp} {d q : Addr} {ws : List (List Nat)} {out : List Nat → Nat} {w : List Nat} (h : KnAt H d ws out) (hq : H q = some (.tup (nvs w))) (hw : w ∈ ws) : DGet H d (.ref q) (some (nv (out w))) := by
  have := kn_get h hq
  rw [if_pos hw] at this
  exact this
/-! ### promises: Halving, Table -/
def HalvAt (c : Cs) (H : Hp) (h : Addr) (lo hi : Nat) : Prop := ∃ dx, H h = some (.ins c.Halving dx (fl_Halving.zip [nv lo, nv hi]))
/-- all objects but those stay -/
def But (Z : Addr → Prop) (H H' : Hp) : Prop := ∀ a o, ¬ Z a → H a = some o → H' a = some o
def sp_Halving_init (P : Program) (w : World) (K : PySem.W.Frag) (c : Cs) : Sp := fun vs H Q _ => ∃ (p dx : Addr) (n : Nat), vs = [.ref p, nv n] ∧ H p = some (.ins c.Halving dx []) ∧ 1 ≤ n ∧ ∀ H', HalvAt c H' p 0 n → But (fun a => a = p) H H' → Q .non H'
def sp_Halving_place (P : Program) (w : World) (K : PySem.W.Frag) (c : Cs) : Sp := fun vs H Q _ => ∃ (p : Addr) (lo hi : Nat), vs = [.ref p] ∧ HalvAt c H p lo hi ∧ lo < hi ∧ Q (if hi - lo = 1 then .non else nv ((lo + hi) / 2)) H
def sp_Halving_tell (P : Program) (w : World) (K : PySem.W.Frag) (c : Cs) : Sp := fun vs H Q _ => ∃ (p : Addr) (lo hi : Nat) (b : Bool), vs = [.ref p, .bl b] ∧ HalvAt c H p lo hi ∧ lo < hi ∧ ¬ hi - lo = 1 ∧
  ∀ H', HalvAt c H' p (if b = true then (lo + hi) / 2 else lo) (if b = true then hi else (lo + hi) / 2) → But (fun a => a = p) H H' → Q .non H'
def sp_Halving_found (P : Program) (w : World) (K : PySem.W.Frag) (c : Cs) : Sp := fun vs H Q _ => ∃ (p : Addr) (lo hi : Nat), vs = [.ref p] ∧ HalvAt c H p lo hi ∧ lo < hi ∧ hi - lo = 1 ∧ Q (nv lo) H
/-- a list of words (tuples) -/
def WsAt (H : Hp) (a : Addr) (S : List (List Nat)) : Prop := ∃ vs, H a = some (.lst vs) ∧ Als (TW H) vs S
theorem WsAt.keep {H H' : Hp} {a : Addr} {S : List (List Nat)} (h : WsAt H a S) (t : Tk H H') (e : H' a = H a) : WsAt H' a S := let ⟨vs, h1, h2⟩ := h; ⟨vs, e.trans h1, h2.mono fun _ _ _ q => q.keep t⟩
theorem WsAt.ex {H H' : Hp} {a : Addr} {S : List (List Nat)} (h : WsAt H a S) (t : Ex H H') : WsAt H' a S := let ⟨vs, h1, h2⟩ := h; ⟨vs, t a _ h1, h2.mono fun _ _ _ q => q.keep (tk_ex t)⟩
theorem dp_ws {K : PySem.W.Frag} {H : Hp} {a : Addr} {S : List (List Nat)} (h : WsAt H a S) : Dp K H (.ref a) (.list (S.map pw)) := let ⟨vs, h1, h2⟩ := h; .lst (SqL.of h1) (dpAll_als (fun _ _ q => dp_tw q) h2)
theorem ws_push {H : Hp} {a : Addr} {L : List (List Nat)} {v : V} {x : List Nat} (h : WsAt H a L) (hv : TW H v x) : ∃ vs, H a = some (.lst vs) ∧ vs.length = L.length ∧ WsAt (upd H a (.lst (vs ++ [v]))) a (L ++ [x]) := by
  obtain ⟨vs, h1, h2⟩ := h
  have t : Tk H (upd H a (.lst (vs ++ [v]))) := tk_upd h1 fun z => z
  exact ⟨vs, h1, h2.len, vs ++ [v], upd_same, (h2.mono fun _ _ _ q => q.keep t).snoc (hv.keep t)⟩
structure TabAt (c : Cs) (H : Hp) (t aS aE aR : Addr) (k : Nat) (S E : List (List Nat)) : Prop where
  ob : ∃ dx, H t = some (.ins c.Table dx (fl_Table.zip [nv k, .ref aS, .ref aE, .ref aR]))
  s : WsAt H aS S
  e : WsAt H aE E
  r : WsAt H aR (Mai.rowsOf k S)
  se : aS ≠ aE
  re : aR ≠ aE
theorem TabAt.ex {c : Cs} {H H' : Hp} {t aS aE aR : Addr} {k : Nat} {S E : List (List Nat)} (h : TabAt c H t aS aE aR k S E) (x : Ex H H') : TabAt c H' t aS aE aR k S E :=
  ⟨let ⟨dx, e⟩ := h.ob; ⟨dx, x _ _ e⟩, h.s.ex x, h.e.ex x, h.r.ex x, h.se, h.re⟩
/-- sizes -/
structure Sz (k : Nat) (S E : List (List Nat)) : Prop where
  k1 : 1 ≤ k
  k4 : k ≤ 4
  Sl : S.length ≤ 31
  El : E.length ≤ 32
  Sw : ∀ w ∈ S, Mai.okw k w ∧ w.length ≤ 31
  Ew : ∀ w ∈ E, Mai.okw k w ∧ w.length ≤ 300
def sp_Table_further_rows (P : Program) (w : World) (K : PySem.W.Frag) (c : Cs) : Sp := fun vs H Q _ => ∃ (t aS dx : Addr) (rest : List V) (k : Nat) (S : List (List Nat)), vs = [.ref t] ∧ H t = some (.ins c.Table dx (fl_Table.zip (nv k :: .ref aS :: rest))) ∧ WsAt H aS S ∧ k ≤ 4 ∧ S.length ≤ 31 ∧ (∀ w ∈ S, w.length ≤ 31) ∧
  ∀ H' r, Ex H H' → H r = none → WsAt H' r (Mai.further k S) → Q (.ref r) H'
def sp_Table_init (P : Program) (w : World) (K : PySem.W.Frag) (c : Cs) : Sp := fun vs H Q _ => ∃ (t dx : Addr) (k : Nat), vs = [.ref t, nv k] ∧ H t = some (.ins c.Table dx []) ∧ k ≤ 4 ∧
  ∀ H' aS aE aR, H aS = none → H aE = none → H aR = none → aS ≠ aR → TabAt c H' t aS aE aR k [[]] [[]] → But (fun a => a = t) H H' → Q .non H'
def sp_Table_state_words (P : Program) (w : World) (K : PySem.W.Frag) (c : Cs) : Sp := fun vs H Q _ => ∃ (t aS aE aR : Addr) (k : Nat) (S E : List (List Nat)), vs = [.ref t] ∧ TabAt c H t aS aE aR k S E ∧ Sz k S E ∧
  ∀ H' r us, Ex H H' → H r = none → H' r = some (.lst us) → Als (LW H') us S → Q (.ref r) H'
def sp_Table_all_wanted (P : Program) (w : World) (K : PySem.W.Frag) (c : Cs) : Sp := fun vs H Q _ => ∃ (t aS aE aR d : Addr) (k : Nat) (S E ws : List (List Nat)) (out : List Nat → Nat), vs = [.ref t, .ref d] ∧ TabAt c H t aS aE aR k S E ∧ Sz k S E ∧ KnAt H d ws out ∧
  ∀ H' r us, Ex H H' → H r = none → H' r = some (.lst us) → Als (fun v w => ∃ a, v = .ref a ∧ H' a = some (.lst (nvs w)) ∧ H a = none) us (Mai.wanted k S E ws) → Q (.ref r) H'
def sp_Table_outputs_of (P : Program) (w : World) (K : PySem.W.Frag) (c : Cs) : Sp := fun vs H Q _ => ∃ (t aS aE aR d : Addr) (rv : V) (k : Nat) (S E ws : List (List Nat)) (row : List Nat) (out : List Nat → Nat), vs = [.ref t, rv, .ref d] ∧ TabAt c H t aS aE aR k S E ∧ Sz k S E ∧ KnAt H d ws out ∧ TW H rv row ∧ row.length ≤ 40 ∧ (∀ x ∈ E, row ++ x ∈ ws) ∧
  ∀ v H', Ex H H' → TW H' v (Mai.ro out E row) → Q v H'
/-- the numbers of the rows -/
def NumOk (kvs : List (List Key × V)) (rs : List (List Nat)) : Prop := kvs.length ≤ rs.length ∧ ∀ r : List Nat, valV kvs (wk r) = if r ∈ rs then some (nv (Mai.idx rs r)) else none
def sp_Table_numbers (P : Program) (w : World) (K : PySem.W.Frag) (c : Cs) : Sp := fun vs H Q _ => ∃ (t aS aE aR d : Addr) (k : Nat) (S E ws : List (List Nat)) (out : List Nat → Nat), vs = [.ref t, .ref d] ∧ TabAt c H t aS aE aR k S E ∧ Sz k S E ∧ KnAt H d ws out ∧ (∀ v ∈ S, ∀ x ∈ E, v ++ x ∈ ws) ∧
  ∀ H' f kvs, Ex H H' → H f = none → H' f = some (.dT kvs) → NumOk kvs (S.map (Mai.ro out E)) → Q (.ref f) H'
def sp_Table_extend (P : Program) (w : World) (K : PySem.W.Frag) (c : Cs) : Sp := fun vs H Q _ => ∃ (t aS aE aR d : Addr) (k : Nat) (S E ws : List (List Nat)) (out : List Nat → Nat), vs = [.ref t, .ref d] ∧ TabAt c H t aS aE aR k S E ∧ Sz k S E ∧ S.length ≤ 30 ∧ (∀ v ∈ S, v.length ≤ 30) ∧ KnAt H d ws out ∧ (∀ x, Mai.Cell k S E x → x ∈ ws) ∧
  (Mai.ext out k S E = none → ∀ H', Ex H H' → Q (.bl false) H') ∧ ∀ r, Mai.ext out k S E = some r → ∀ H' aR', H aR' = none → Tk H H' → But (fun a => a = t ∨ a = aS) H H' → TabAt c H' t aS aE aR' k (S ++ [r]) E → Q (.bl true) H'
def sp_Table_add_column (P : Program) (w : World) (K : PySem.W.Frag) (c : Cs) : Sp := fun vs H Q _ => ∃ (t aS aE aR : Addr) (wv : V) (k : Nat) (S E : List (List Nat)) (x : List Nat), vs = [.ref t, wv] ∧ TabAt c H t aS aE aR k S E ∧ Sz k S E ∧ LW H wv x ∧ x ∉ E ∧
  ∀ H', Tk H H' → But (fun a => a = aE) H H' → TabAt c H' t aS aE aR k S (E ++ [x]) → Q .non H'
def sp_Table_machine (P : Program) (w : World) (K : PySem.W.Frag) (c : Cs) : Sp := fun vs H Q _ => ∃ (t aS aE aR d : Addr) (k o : Nat) (S E ws : List (List Nat)) (out : List Nat → Nat), vs = [.ref t, nv o, .ref d] ∧ TabAt c H t aS aE aR k S E ∧ Sz k S E ∧ KnAt H d ws out ∧ (∀ x, Mai.Cell k S E x → x ∈ ws) ∧ [] ∈ E ∧ Mai.Closed out k S E ∧
  ∀ v H', Ex H H' → MF H' v (Mai.machP out k o S E) → Q v H'
def sp_Table_mistake (P : Program) (w : World) (K : PySem.W.Frag) (c : Cs) : Sp := fun vs H Q _ => ∃ (t aS aE aR d : Addr) (k o : Nat) (S E ws : List (List Nat)) (out : List Nat → Nat), vs = [.ref t, nv o, .ref d] ∧ TabAt c H t aS aE aR k S E ∧ Sz k S E ∧ KnAt H d ws out ∧ (∀ x, Mai.Cell k S E x → x ∈ ws) ∧ [] ∈ E ∧ Mai.Closed out k S E ∧
  (Mai.mistP out (Mai.machP out k o S E) S E = none → ∀ H', Ex H H' → Q .non H') ∧
  ∀ i x, Mai.mistP out (Mai.machP out k o S E) S E = some (i, x) → ∀ H' a u v, Ex H H' → H' a = some (.tup [u, v]) → LW H' u (S.getD i []) → LW H' v x → Q (.ref a) H'
end MW
/-! ## P2 -/
namespace MW
open PySem PySem.Spec PyProof.Rows L2 Evl
section
variable {P : Program} {w : World} {K : PySem.W.Frag} {mg : Str → Option Value} {base : Heap} {c : Cs}
theorem ok_Halving_init {f : Addr} {fd : FuncData} (T : Tx K mg c)  (F : FnP K "__init__" "Halving.__init__" s_Halving_init f fd) : FnOk P w K mg base CX0 1 f fd p_Halving_init (sp_Halving_init P w K c) := by
  refine F.ok sc_Halving_init (fun vs H Q E h => by obtain ⟨_, _, _, rfl, _⟩ := h; rfl) (fun cdv A outer s H vs Q E hr h => ?_)
  refine ⟨_, PSs.nox (pss_cons (ps_if (pt_cmpR op_lt (pv 1) pe_int (by rfl))
     (pss_one (ps_never))
     pss_nil)
     (pss_cons (ps_fld (pv 0) pe_int rfl)
     (pss_one (ps_fld (pv 0) (pv 1) rfl)))), ?_⟩
  obtain ⟨p, dx, n, rfl, hp, hn, k⟩ := h
  replace hp : H p = some (.ins c.Halving dx (fl_Halving.zip [])) := hp
  refine ⟨_, rfl, _, _, rfl, rfl, _, rfl, iteN (decide_eq_false (by omega)) ?_⟩
  refine ⟨_, rfl, fput T.fH (i := 0) hp rfl ?_⟩
  have h1 : upd H p (.ins c.Halving dx (putF "_low" (.int 0) (fl_Halving.zip []))) p = some (.ins c.Halving dx (fl_Halving.zip [nv 0])) := by
    rw [upd_same, zip_end nd_Halving (i := 0) rfl rfl]
    rfl
  refine ⟨_, rfl, _, rfl, fput T.fH (i := 1) h1 rfl ?_⟩
  refine k _ ⟨dx, ?_⟩ fun a o na ha => by rw [upd_ne na, upd_ne na]; exact ha
  rw [upd_same, zip_end nd_Halving (i := 1) rfl rfl]
  rfl

theorem ok_Halving_place {f : Addr} {fd : FuncData} (T : Tx K mg c)  (F : FnP K "place" "Halving.place" s_Halving_place f fd) : FnOk P w K mg base CX0 1 f fd p_Halving_place (sp_Halving_place P w K c) := by
  refine F.ok sc_Halving_place (fun vs H Q E h => by obtain ⟨_, _, _, rfl, _⟩ := h; rfl) (fun cdv A outer s H vs Q E hr h => ?_)
  refine ⟨_, PSs.nox (pss_cons (ps_if (pt_cmpR op_eq (pe_op op_sub (pe_fld (pv 0) rfl) (pe_fld (pv 0) rfl)) pe_int (by rfl))
     (pss_one (ps_ret pe_non))
     pss_nil)
     (pss_one (ps_ret (pe_op op_fdivN (pe_op op_add (pe_fld (pv 0) rfl) (pe_fld (pv 0) rfl)) pe_int)))), ?_⟩
  obtain ⟨p, lo, hi, rfl, ⟨dx, hp⟩, hl, k⟩ := h
  refine ⟨_, rfl, fget T.fH (i := 1) hp rfl rfl ⟨_, rfl, fget T.fH (i := 0) hp rfl rfl ⟨_, _, rfl, rfl, rfl, _, rfl, ?_⟩⟩⟩
  by_cases e : hi - lo = 1
  · rw [if_pos e] at k
    exact iteP (decide_eq_true (congrArg V.int (by omega))) k
  · rw [if_neg e] at k
    refine iteN (decide_eq_false fun z => e (by have := V.int.inj z; omega)) ⟨_, rfl, fget T.fH (i := 0) hp rfl rfl ⟨_, rfl, fget T.fH (i := 1) hp rfl rfl ⟨_, _, rfl, rfl, _, _, rfl, rfl, ⟨by decide, by decide⟩, ?_⟩⟩⟩
    have : ((lo : Int) + (hi : Int)).fdiv 2 = (((lo + hi) / 2 : Nat) : Int) := by
      rw [Int.fdiv_eq_ediv_of_nonneg _ (by decide)]
      omega
    show Q (.int (((lo : Int) + (hi : Int)).fdiv 2)) H
    rw [this]
    exact k

theorem ok_Halving_tell {f : Addr} {fd : FuncData} (T : Tx K mg c) (D_Halving_place : Mtd P w K mg base CX0 1 c.Halving "place" p_Halving_place (sp_Halving_place P w K c)) (F : FnP K "tell" "Halving.tell" s_Halving_tell f fd) : FnOk P w K mg base CX0 2 f fd p_Halving_tell (sp_Halving_tell P w K c) := by
  refine F.ok sc_Halving_tell (fun vs H Q E h => by obtain ⟨_, _, _, _, rfl, _⟩ := h; rfl) (fun cdv A outer s H vs Q E hr h => ?_)
  refine ⟨_, PSs.nox (pss_cons (ps_set (i := 2) sc_Halving_tell.nd rfl (Or.inl rfl) (pe_m0 (pv 0) T.k_Halving D_Halving_place (hr.mono (by decide))))
     (pss_cons (ps_if (pt_cmpR op_isN (pv 2) pe_non (by rfl))
     (pss_one (ps_never))
     pss_nil)
     (pss_one (ps_if (pt_val (pv 1))
     (pss_one (ps_fld (pv 0) (pv 2) rfl))
     (pss_one (ps_fld (pv 0) (pv 2) rfl)))))), ?_⟩
  obtain ⟨p, lo, hi, b, rfl, ⟨dx, hp⟩, hl, hne, k⟩ := h
  refine ⟨_, rfl, p, dx, _, rfl, hp, zip_none (by decide +kernel), p, lo, hi, rfl, ⟨dx, hp⟩, hl, ?_⟩
  rw [if_neg hne]
  refine ⟨_, rfl, rfl, _, rfl, iteN rfl ⟨_, rfl, _, rfl, ?_⟩⟩
  cases b with
  | true =>
    refine iteT ⟨_, rfl, _, rfl, fput T.fH (i := 0) hp rfl ?_⟩
    refine k _ ⟨dx, ?_⟩ fun a o na ha => by rw [upd_ne na]; exact ha
    rw [upd_same, zip_put nd_Halving (i := 0) rfl (by simp)]
    rfl
  | false =>
    refine iteF ⟨_, rfl, _, rfl, fput T.fH (i := 1) hp rfl ?_⟩
    refine k _ ⟨dx, ?_⟩ fun a o na ha => by rw [upd_ne na]; exact ha
    rw [upd_same, zip_put nd_Halving (i := 1) rfl (by simp)]
    rfl

theorem ok_Halving_found {f : Addr} {fd : FuncData} (T : Tx K mg c) (D_Halving_place : Mtd P w K mg base CX0 1 c.Halving "place" p_Halving_place (sp_Halving_place P w K c)) (F : FnP K "found" "Halving.found" s_Halving_found f fd) : FnOk P w K mg base CX0 2 f fd p_Halving_found (sp_Halving_found P w K c) := by
  refine F.ok sc_Halving_found (fun vs H Q E h => by obtain ⟨_, _, _, rfl, _⟩ := h; rfl) (fun cdv A outer s H vs Q E hr h => ?_)
  refine ⟨_, PSs.nox (pss_cons (ps_if (pt_cmpR op_notN (pe_m0 (pv 0) T.k_Halving D_Halving_place (hr.mono (by decide))) pe_non (by rfl))
     (pss_one (ps_never))
     pss_nil)
     (pss_one (ps_ret (pe_fld (pv 0) rfl)))), ?_⟩
  obtain ⟨p, lo, hi, rfl, ⟨dx, hp⟩, hl, he, k⟩ := h
  refine ⟨_, rfl, p, dx, _, rfl, hp, zip_none (by decide +kernel), p, lo, hi, rfl, ⟨dx, hp⟩, hl, ?_⟩
  rw [if_pos he]
  exact ⟨rfl, _, rfl, iteN rfl ⟨_, rfl, fget T.fH (i := 0) hp rfl rfl k⟩⟩

theorem filter_snoc {α : Type} (p : α → Bool) (l : List α) (x : α) : (l ++ [x]).filter p = if p x = true then l.filter p ++ [x] else l.filter p := by
  rw [List.filter_append]
  by_cases h : p x = true
  · rw [if_pos h]; simp [h]
  · rw [if_neg h]; simp [h]
theorem range_map_snoc {β : Type} (f : Nat → β) (n : Nat) : (List.range (n + 1)).map f = (List.range n).map f ++ [f n] := by rw [List.range_succ, List.map_append]; rfl
theorem flat_take {β : Type} (f : List Nat → List β) {S : List (List Nat)} {i : Nat} {x : List Nat} (h : S[i]? = some x) : (S.take (i + 1)).flatMap f = (S.take i).flatMap f ++ f x := by rw [take_succ' h, List.flatMap_append]; simp
theorem flat_bound {β : Type} (f : List Nat → List β) {n : Nat} (S : List (List Nat)) (h : ∀ x, (f x).length ≤ n) : (S.flatMap f).length ≤ S.length * n := by
  induction S with
  | nil => simp
  | cons a S ih =>
    rw [List.flatMap_cons, List.length_append, List.length_cons, Nat.succ_mul]
    have := h a
    omega
theorem ok_Table_further_rows {f : Addr} {fd : FuncData} (T : Tx K mg c)  (F : FnP K "further_rows" "Table.further_rows" s_Table_further_rows f fd) : FnOk P w K mg base CX0 1 f fd p_Table_further_rows (sp_Table_further_rows P w K c) := by
  refine F.ok sc_Table_further_rows (fun vs H Q E h => by obtain ⟨_, _, _, _, _, _, rfl, _⟩ := h; rfl) (fun cdv A outer s H vs Q E hr h => ?_)
  refine ⟨_, PSs.nox (pss_cons (ps_set (i := 1) sc_Table_further_rows.nd rfl (Or.inl rfl) (pe_lst pa_nil))
     (pss_cons (ps_for PassesOwn.never rfl (pi_list (pe_fld (pv 0) rfl)) (pg_name (i := 2) sc_Table_further_rows.nd rfl (Or.inl rfl))
     (pss_one (ps_for PassesOwn.never rfl (pi_range1 (by rfl) T.b_range (pa_cons (pe_fld (pv 0) rfl) pa_nil)) (pg_name (i := 3) sc_Table_further_rows.nd rfl (Or.inl rfl))
     (pss_cons (ps_set (i := 4) sc_Table_further_rows.nd rfl (Or.inl rfl) (pe_op op_catA (pv 2) (pe_tup (pa_cons (pv 3) pa_nil))))
     (pss_one (ps_if (pt_cmpR (op_notInD (hu65 hr)) (pv 4) (pe_fld (pv 0) rfl) (by rfl))
     (pss_one (ps_expr (pe_bm PySem.F.plainAttrs_list PySem.F.slot_list_append PySem.F.type_list_append mt_append (pv 1) (pa_cons (pv 4) pa_nil))))
     pss_nil))))))
     (pss_one (ps_ret (pv 1))))), ?_⟩
  obtain ⟨t, aS, dx, rest, k, S, rfl, ht, hS, hk4, hSl, hSw, kq⟩ := h
  refine ⟨by decide, fun r0 hr0 => ?_⟩
  have e1 : Ex H (upd H r0 (.lst [])) := Ex.new hr0
  have hlen : ∀ i, ((S.take i).flatMap fun w => (List.range k).map fun a => w ++ [a]).length ≤ 124 := fun i => by
    have h1 := flat_bound (fun w => (List.range k).map fun a => w ++ [a]) (n := k) (S.take i) fun x => by simp
    have h2 : (S.take i).length ≤ 31 := by rw [List.length_take]; omega
    have h3 : (S.take i).length * k ≤ 31 * 4 := Nat.mul_le_mul h2 hk4
    omega
  refine ⟨_, rfl, fget T.fT (i := 1) (e1 t _ ht) rfl rfl ⟨aS, rfl, ?_⟩⟩
  obtain ⟨vs, hvs, als⟩ := id hS
  refine ⟨⟨_, SqL.of (e1 aS _ hvs)⟩, for_list (xs := vs) (fun i σ H2 => ∃ (s2 s3 s4 : Option V), σ = [some (V.ref t), some (V.ref r0), s2, s3, s4] ∧ Ex H H2 ∧ WsAt H2 r0 (((S.take i).flatMap fun w => (List.range k).map fun a => w ++ [a]).filter fun r => !decide (r ∈ S)))
    ⟨_, _, _, rfl, e1, [], upd_same, Als.nil⟩ (fun i σ H2 _ ⟨_, _, _, _, e, _⟩ => SqL.of (e aS _ hvs)) ?_ ?_⟩
  · rintro i x σ H2 hx ⟨s2, s3, s4, rfl, e2, hr2⟩
    obtain ⟨wd, hwd, aw, rfl, haw⟩ := als.of hx
    refine ⟨_, rfl, fget T.fT (i := 0) (e2 t _ ht) rfl rfl ?_⟩
    refine ⟨_, rfl, by omega, by omega, for_range (fun j σ H3 => ∃ (s3 s4 : Option V), σ = [some (V.ref t), some (V.ref r0), some (V.ref aw), s3, s4] ∧ Ex H H3 ∧ WsAt H3 r0 ((((S.take i).flatMap fun w => (List.range k).map fun a => w ++ [a]) ++ (List.range j).map fun a => wd ++ [a]).filter fun r => !decide (r ∈ S)))
      ⟨_, _, rfl, e2, by rw [List.range_zero, List.map_nil, List.append_nil]; exact hr2⟩ ?_ ?_⟩
    · rintro j σ H3 hj ⟨s3, s4, rfl, e3, hr3⟩
      refine ⟨_, rfl, _, rfl, sz1, fun p hp => ?_⟩
      have e4 : Ex H3 (upd H3 p (.tup [.int (0 + (j : Int))])) := Ex.new hp
      have hp' : upd H3 p (.tup [.int (0 + (j : Int))]) p = some (.tup (nvs [j])) := by rw [upd_same, Int.zero_add]; rfl
      refine rcat (v := wd) (w := [j]) (e4 aw _ (e3 aw _ haw)) hp' (by have := hSw wd (List.mem_of_getElem? hwd); show _ + 1 < _; omega) fun q H5 e5 hq => ?_
      have e35 := e4.trans e5
      have e05 := e3.trans e35
      have hr5 := hr3.ex e35
      refine ⟨_, rfl, _, rfl, fget T.fT (i := 1) (e05 t _ ht) rfl rfl ⟨pw (wd ++ [j]), S.map pw, dp_tw ⟨q, rfl, hq⟩, dp_ws (hS.ex e05), pw_sh _, list_sh pw_lay (fun x => Nat.le_trans (pw_depth x) (by decide)) _, _, rfl, ?_⟩⟩
      rw [any_eqv pw_eqv, range_map_snoc, ← List.append_assoc, filter_snoc]
      by_cases cm : wd ++ [j] ∈ S
      · refine iteN (nd_f cm) ⟨_, _, rfl, e05, ?_⟩
        rw [if_neg (by rw [nd_f cm]; decide)]
        exact hr5
      · obtain ⟨us, hus, hul, hpush⟩ := ws_push hr5 (v := .ref q) ⟨q, rfl, hq⟩
        refine iteP (nd_t cm) ⟨_, rfl, .inl ⟨rfl, _, SqL.of hus⟩, _, rfl, r0, _, _, rfl, rfl, hus, szl ?_, _, _, rfl, Ex.mut e05 hr0, ?_⟩
        · rw [hul]
          refine Nat.lt_of_le_of_lt (List.length_filter_le _ _) ?_
          rw [List.length_append, List.length_map, List.length_range]
          have h1 := hlen i
          have : j < k := by omega
          omega
        · rw [if_pos (nd_t cm)]
          exact hpush
    · rintro σ H3 ⟨s3, s4, rfl, e3, hr3⟩
      refine ⟨_, _, _, rfl, e3, ?_⟩
      rw [flat_take _ hwd]
      exact hr3
  · rintro σ H2 ⟨s2, s3, s4, rfl, e2, hr2⟩
    refine ⟨_, rfl, kq H2 r0 e2 hr0 ?_⟩
    rw [als.len, List.take_length] at hr2
    exact hr2

theorem ok_Table_init {f : Addr} {fd : FuncData} (T : Tx K mg c) (D_Table_further_rows : Mtd P w K mg base CX0 1 c.Table "further_rows" p_Table_further_rows (sp_Table_further_rows P w K c)) (F : FnP K "__init__" "Table.__init__" s_Table_init f fd) : FnOk P w K mg base CX0 2 f fd p_Table_init (sp_Table_init P w K c) := by
  refine F.ok sc_Table_init (fun vs H Q E h => by obtain ⟨_, _, _, rfl, _⟩ := h; rfl) (fun cdv A outer s H vs Q E hr h => ?_)
  refine ⟨_, PSs.nox (pss_cons (ps_fld (pv 0) (pv 1) rfl)
     (pss_cons (ps_fld (pv 0) (pe_lst (pa_cons (pe_tup pa_nil) pa_nil)) rfl)
     (pss_cons (ps_fld (pv 0) (pe_lst (pa_cons (pe_tup pa_nil) pa_nil)) rfl)
     (pss_one (ps_fld (pv 0) (pe_op op_cat (pe_lst (pa_cons (pe_tup pa_nil) pa_nil)) (pe_m0 (pv 0) T.k_Table D_Table_further_rows (hr.mono (by decide)))) rfl))))), ?_⟩
  obtain ⟨t, dx, k, rfl, ht, hk4, kq⟩ := h
  replace ht : H t = some (.ins c.Table dx (fl_Table.zip [])) := ht
  refine ⟨_, rfl, _, rfl, fput T.fT (i := 0) ht rfl ?_⟩
  have h1 : upd H t (.ins c.Table dx (putF "letters" (nv k) (fl_Table.zip []))) t = some (.ins c.Table dx (fl_Table.zip [nv k])) := by
    rw [upd_same, zip_end nd_Table (i := 0) rfl rfl]
    rfl
  have b1 : But (fun a => a = t) H (upd H t (.ins c.Table dx (putF "letters" (nv k) (fl_Table.zip [])))) := fun a o na ha => by rw [upd_ne na]; exact ha
  generalize upd H t (.ins c.Table dx (putF "letters" (nv k) (fl_Table.zip []))) = H1 at *
  refine ⟨by decide, fun p hp => ⟨sz1, fun aS haS => ⟨_, rfl, fput T.fT (i := 1) ((Ex.new haS) t _ ((Ex.new hp) t _ h1)) rfl ?_⟩⟩⟩
  have npS : p ≠ aS := ne_of_none upd_same haS
  have ntp : t ≠ p := ne_of_none h1 hp
  have ntS : t ≠ aS := ne_of_none ((Ex.new hp) t _ h1) haS
  have hS2 : upd (upd (upd H1 p (.tup [])) aS (.lst [.ref p])) t (.ins c.Table dx (putF "_states" (.ref aS) (fl_Table.zip [nv k]))) aS = some (.lst [.ref p]) := by rw [upd_ne ntS.symm, upd_same]
  have hp2 : upd (upd (upd H1 p (.tup [])) aS (.lst [.ref p])) t (.ins c.Table dx (putF "_states" (.ref aS) (fl_Table.zip [nv k]))) p = some (.tup []) := by rw [upd_ne ntp.symm, upd_ne npS, upd_same]
  have ht2 : upd (upd (upd H1 p (.tup [])) aS (.lst [.ref p])) t (.ins c.Table dx (putF "_states" (.ref aS) (fl_Table.zip [nv k]))) t = some (.ins c.Table dx (fl_Table.zip [nv k, .ref aS])) := by
    rw [upd_same, zip_end nd_Table (i := 1) rfl rfl]
    rfl
  have b2 : But (fun a => a = t) H (upd (upd (upd H1 p (.tup [])) aS (.lst [.ref p])) t (.ins c.Table dx (putF "_states" (.ref aS) (fl_Table.zip [nv k])))) := fun a o na ha => by
    rw [upd_ne na]
    exact (Ex.new haS) a o ((Ex.new hp) a o (b1 a o na ha))
  have gS : H aS = none := by
    cases z : H aS with
    | none => rfl
    | some o =>
      have := (Ex.new (o := HO.tup []) hp) aS o (b1 aS o (fun e => ntS e.symm) z)
      rw [this] at haS
      cases haS
  generalize upd (upd (upd H1 p (.tup [])) aS (.lst [.ref p])) t (.ins c.Table dx (putF "_states" (.ref aS) (fl_Table.zip [nv k]))) = H2 at *
  refine ⟨by decide, fun p2 hp2n => ⟨sz1, fun aE haE => ⟨_, rfl, fput T.fT (i := 2) ((Ex.new haE) t _ ((Ex.new hp2n) t _ ht2)) rfl ?_⟩⟩⟩
  have np2E : p2 ≠ aE := ne_of_none upd_same haE
  have ntE : t ≠ aE := ne_of_none ((Ex.new hp2n) t _ ht2) haE
  have ntp2 : t ≠ p2 := ne_of_none ht2 hp2n
  have nSE : aS ≠ aE := ne_of_none ((Ex.new hp2n) aS _ hS2) haE
  have x3 : But (fun a => a = t) H2 (upd (upd (upd H2 p2 (.tup [])) aE (.lst [.ref p2])) t (.ins c.Table dx (putF "_columns" (.ref aE) (fl_Table.zip [nv k, .ref aS])))) := fun a o na ha => by
    rw [upd_ne na]
    exact (Ex.new haE) a o ((Ex.new hp2n) a o ha)
  have hS3 := x3 aS _ (fun e => ntS e.symm) hS2
  have hp3 := x3 p _ (fun e => ntp e.symm) hp2
  have hE3 : upd (upd (upd H2 p2 (.tup [])) aE (.lst [.ref p2])) t (.ins c.Table dx (putF "_columns" (.ref aE) (fl_Table.zip [nv k, .ref aS]))) aE = some (.lst [.ref p2]) := by rw [upd_ne ntE.symm, upd_same]
  have hp23 : upd (upd (upd H2 p2 (.tup [])) aE (.lst [.ref p2])) t (.ins c.Table dx (putF "_columns" (.ref aE) (fl_Table.zip [nv k, .ref aS]))) p2 = some (.tup []) := by rw [upd_ne ntp2.symm, upd_ne np2E, upd_same]
  have ht3 : upd (upd (upd H2 p2 (.tup [])) aE (.lst [.ref p2])) t (.ins c.Table dx (putF "_columns" (.ref aE) (fl_Table.zip [nv k, .ref aS]))) t = some (.ins c.Table dx (fl_Table.zip [nv k, .ref aS, .ref aE])) := by
    rw [upd_same, zip_end nd_Table (i := 2) rfl rfl]
    rfl
  have gE : H aE = none := by
    cases z : H aE with
    | none => rfl
    | some o =>
      have := (Ex.new (o := HO.tup []) hp2n) aE o (b2 aE o (fun e => ntE e.symm) z)
      rw [this] at haE
      cases haE
  have b3 : But (fun a => a = t) H (upd (upd (upd H2 p2 (.tup [])) aE (.lst [.ref p2])) t (.ins c.Table dx (putF "_columns" (.ref aE) (fl_Table.zip [nv k, .ref aS])))) := fun a o na ha => x3 a o na (b2 a o na ha)
  generalize upd (upd (upd H2 p2 (.tup [])) aE (.lst [.ref p2])) t (.ins c.Table dx (putF "_columns" (.ref aE) (fl_Table.zip [nv k, .ref aS]))) = H3 at *
  refine ⟨by decide, fun p4 hp4 => ⟨sz1, fun l4 hl4 => ?_⟩⟩
  have np4 : p4 ≠ l4 := ne_of_none upd_same hl4
  have e34 : Ex H3 (upd (upd H3 p4 (.tup [])) l4 (.lst [.ref p4])) := (Ex.new hp4).trans (Ex.new hl4)
  have hl4' : upd (upd H3 p4 (.tup [])) l4 (.lst [.ref p4]) l4 = some (.lst [.ref p4]) := upd_same
  have hp4' : upd (upd H3 p4 (.tup [])) l4 (.lst [.ref p4]) p4 = some (.tup []) := by rw [upd_ne np4, upd_same]
  generalize upd (upd H3 p4 (.tup [])) l4 (.lst [.ref p4]) = H4 at *
  have ws1 : ∀ {H' : Hp} {a b : Addr}, H' a = some (.lst [.ref b]) → H' b = some (.tup []) → WsAt H' a [[]] := fun h1 h2 => ⟨_, h1, Als.one ⟨_, rfl, h2⟩⟩
  refine ⟨_, rfl, t, dx, _, rfl, e34 t _ ht3, zip_none (by decide +kernel), t, aS, dx, [.ref aE], k, [[]], rfl, e34 t _ ht3, ws1 (e34 aS _ hS3) (e34 p _ hp3), hk4, by decide, fun w hw => by simp at hw; rw [hw]; decide, fun H5 r5 e5 hr5 wr5 => ?_⟩
  obtain ⟨us, hus, hals⟩ := id wr5
  have e35 := e34.trans e5
  have hul : us.length ≤ 4 := by
    rw [hals.len]
    refine Nat.le_trans (List.length_filter_le _ _) ?_
    simp
    exact hk4
  refine ⟨l4, r5, _, _, rfl, rfl, e5 l4 _ hl4', hus, by show 1 + us.length ≤ sizeLine; exact szle (by omega), fun aR haR => ⟨_, rfl, fput T.fT (i := 3) ((Ex.new haR) t _ (e35 t _ ht3)) rfl ?_⟩⟩
  have ntR : t ≠ aR := ne_of_none (e35 t _ ht3) haR
  have nRE : aR ≠ aE := (ne_of_none (e35 aE _ hE3) haR).symm
  have x6 : But (fun a => a = t) H5 (upd (upd H5 aR (.lst ([.ref p4] ++ us))) t (.ins c.Table dx (putF "_rows" (.ref aR) (fl_Table.zip [nv k, .ref aS, .ref aE])))) := fun a o na ha => by
    rw [upd_ne na]
    exact (Ex.new haR) a o ha
  have t6 : Tk H5 (upd (upd H5 aR (.lst ([.ref p4] ++ us))) t (.ins c.Table dx (putF "_rows" (.ref aR) (fl_Table.zip [nv k, .ref aS, .ref aE])))) := (tk_new haR).trans (tk_upd ((Ex.new haR) t _ (e35 t _ ht3)) fun z => z)
  have gR : H aR = none := by
    cases z : H aR with
    | none => rfl
    | some o =>
      rw [e35 aR o (b3 aR o (fun e => ntR e.symm) z)] at haR
      cases haR
  refine kq _ aS aE aR gS gE gR (ne_of_none (e35 aS _ hS3) haR) ⟨⟨dx, ?_⟩, ?_, ?_, ?_, nSE, nRE⟩ fun a o na ha => x6 a o na (e35 a o (b3 a o na ha))
  · rw [upd_same, zip_end nd_Table (i := 3) rfl rfl]
    rfl
  · exact ws1 (x6 aS _ (fun e => ntS e.symm) (e35 aS _ hS3)) (x6 p _ (fun e => ntp e.symm) (e35 p _ hp3))
  · exact ws1 (x6 aE _ (fun e => ntE e.symm) (e35 aE _ hE3)) (x6 p2 _ (fun e => ntp2 e.symm) (e35 p2 _ hp23))
  · refine ⟨[.ref p4] ++ us, by rw [upd_ne ntR.symm, upd_same], ?_⟩
    exact (Als.one ⟨p4, rfl, t6.at (e5 p4 _ hp4')⟩).app (hals.mono fun _ _ _ q => q.keep t6)

theorem ok_Table_state_words {f : Addr} {fd : FuncData} (T : Tx K mg c)  (F : FnP K "state_words" "Table.state_words" s_Table_state_words f fd) : FnOk P w K mg base CX0 1 f fd p_Table_state_words (sp_Table_state_words P w K c) := by
  refine F.ok sc_Table_state_words (fun vs H Q E h => by obtain ⟨_, _, _, _, _, _, _, rfl, _⟩ := h; rfl) (fun cdv A outer s H vs Q E hr h => ?_)
  refine ⟨_, PSs.nox (pss_one (ps_ret (pe_lc (own := [("word", 1)]) (te := (tCB (rListOf K) (tCons (tVar 1) tNil))) (by rfl) sc_Table_state_words.nd (pi_list (pe_fld (pv 0) rfl)) (blkOk_by (N := N_Table_state_words) (sc := (defScope s_Table_state_words)) (by decide +kernel)) (fun _ _ _ _ _ => (pg_name (i := 1) sc_Table_state_words.nd rfl (Or.inl rfl))) (fun _ _ _ _ _ => pts_nil) (fun _ _ _ _ _ => (pe_callTy call_list_of (by rfl) T.b_list (by decide +kernel) (pa_cons (pv 1) pa_nil)))))), ?_⟩
  obtain ⟨t, aS, aE, aR, k, S, E', rfl, tb, sz, kq⟩ := h
  obtain ⟨⟨dx, ht⟩, hS, hE, hR, nSE, nRE⟩ := id tb
  obtain ⟨vs, hvs, als⟩ := id hS
  refine ⟨_, rfl, fget T.fT (i := 1) ht rfl rfl ⟨aS, rfl, ⟨_, SqL.of hvs⟩, fun D hD => lc_w hD (walk_list.mono (fun H2 e => SqL.of (e aS _ hvs)) fun _ _ _ _ _ _ y => y) (fun _ => rfl) (fun i v H2 => ∀ x, S[i]? = some x → LW H2 v x) (fun i v H2 acc o' h hDD nv' => fun x hx => ?_) (fun _ _ _ _ h e => fun x hx => (h x hx).keep e) ?_ (by rw [als.len]; have := sz.Sl; omega) ?_⟩⟩
  · obtain ⟨a, rfl, ha⟩ := h x hx
    exact ⟨a, rfl, by rw [upd_ne (fun z => nv' (by rw [z]))]; exact ha⟩
  · rintro i x H2 H3 hi e2 ⟨accD, hDD⟩ ⟨rfl, hx⟩ Q' kk
    obtain ⟨wd, hwd, aw, rfl, haw⟩ := als.of hx
    refine ⟨_, rfl, aw, _, rfl, .inr (SqT.of (e2 aw _ haw)), fun l hl => kk _ _ (Ex.new hl) (by intro z; cases z; rw [hDD] at hl; cases hl) fun y hy => ?_⟩
    rw [hwd] at hy
    cases hy
    exact ⟨l, rfl, upd_same⟩
  · intro H2 acc e2 hacc hal hap
    refine kq H2 D acc e2 hD hacc ⟨by rw [hal, als.len], fun i v x h1 h2 => hap i v h1 x h2⟩

theorem ok_Table_outputs_of {f : Addr} {fd : FuncData} (T : Tx K mg c)  (F : FnP K "outputs_of" "Table.outputs_of" s_Table_outputs_of f fd) : FnOk P w K mg base CX0 1 f fd p_Table_outputs_of (sp_Table_outputs_of P w K c) := by
  refine F.ok sc_Table_outputs_of (fun vs H Q E h => by obtain ⟨_, _, _, _, _, _, _, _, _, _, _, _, rfl, _⟩ := h; rfl) (fun cdv A outer s H vs Q E hr h => ?_)
  refine ⟨_, PSs.nox (pss_one (ps_ret (pe_callTy call_tuple_of (by rfl) T.b_tuple (by decide +kernel) (pa_cons (pe_lc (own := [("column", 3)]) (te := (tDGet (tVar 2) (tOp (rCatA K) (tVar 1) (tVar 3)))) (by rfl) sc_Table_outputs_of.nd (pi_list (pe_fld (pv 0) rfl)) (blkOk_by (N := N_Table_outputs_of) (sc := (defScope s_Table_outputs_of)) (by decide +kernel)) (fun _ _ _ _ _ => (pg_name (i := 3) sc_Table_outputs_of.nd rfl (Or.inl rfl))) (fun _ _ _ _ _ => pts_nil) (fun _ _ _ _ _ => (pe_dget (hu_of hr) (pv 2) (pe_op op_catA (pv 1) (pv 3)) (fun _ _ => rfl)))) pa_nil)))), ?_⟩
  obtain ⟨t, aS, aE, aR, d, rv, k, S, E', ws, row, out, rfl, tb, sz, hd, ⟨ar, rfl, har⟩, hrow, hin, kq⟩ := h
  obtain ⟨⟨dx, ht⟩, hS, hE, hR, nSE, nRE⟩ := id tb
  obtain ⟨vs, hvs, als⟩ := id hE
  refine ⟨_, rfl, fget T.fT (i := 2) ht rfl rfl ⟨aE, rfl, ⟨_, SqL.of hvs⟩, fun D hD => lc_w hD (walk_list.mono (fun H2 e => SqL.of (e aE _ hvs)) fun _ _ _ _ _ _ y => y) (fun _ => rfl) (fun i v _ => ∀ x, E'[i]? = some x → v = nv (out (row ++ x))) (fun _ _ _ _ _ h _ _ => h) (fun _ _ _ _ h _ => h) ?_ (by rw [als.len]; have := sz.El; omega) ?_⟩⟩
  · rintro i x H2 H3 hi e2 ⟨accD, hDD⟩ ⟨rfl, hx⟩ Q' kk
    obtain ⟨wd, hwd, aw, rfl, haw⟩ := als.of hx
    have hm := List.mem_of_getElem? hwd
    refine ⟨_, rfl, _, rfl, _, rfl, rcat (e2 ar _ har) (e2 aw _ haw) (by have := (sz.Ew wd hm).2; omega) fun q H5 e5 hq => ?_⟩
    refine ⟨d, _, rfl, kn_some ((e2.trans e5) d _ hd) hq (hin wd hm), kk _ _ e5 (by intro z; cases z) fun y hy => ?_⟩
    rw [hwd] at hy
    cases hy
    rfl
  · intro H2 acc e2 hacc hal hap
    have eacc : acc = nvs (Mai.ro out E' row) := by
      unfold Mai.ro nvs
      rw [List.map_map]
      exact vals_each (by rw [hal, als.len]) fun i v x h1 h2 => hap i v h1 x h2
    subst eacc
    exact ⟨D, _, rfl, .inl ⟨SqL.of hacc, fun l hl => kq _ _ (e2.trans (Ex.new hl)) ⟨l, rfl, upd_same⟩⟩⟩

theorem ok_Table_numbers {f : Addr} {fd : FuncData} (T : Tx K mg c) (D_Table_outputs_of : Mtd P w K mg base CX0 1 c.Table "outputs_of" p_Table_outputs_of (sp_Table_outputs_of P w K c)) (F : FnP K "numbers" "Table.numbers" s_Table_numbers f fd) : FnOk P w K mg base CX0 2 f fd p_Table_numbers (sp_Table_numbers P w K c) := by
  refine F.ok sc_Table_numbers (fun vs H Q E h => by obtain ⟨_, _, _, _, _, _, _, _, _, _, rfl, _⟩ := h; rfl) (fun cdv A outer s H vs Q E hr h => ?_)
  refine ⟨_, PSs.nox (pss_cons (ps_set (i := 2) sc_Table_numbers.nd rfl (Or.inl rfl) pe_dnewT)
     (pss_cons (ps_for PassesOwn.never rfl (pi_enum (by rfl) T.b_enumerate (pa_cons (pe_fld (pv 0) rfl) pa_nil)) (pg_tup (by rfl) (pgs_cons (pg_name (i := 3) sc_Table_numbers.nd rfl (Or.inl rfl)) (pgs_cons (pg_name (i := 4) sc_Table_numbers.nd rfl (Or.inl rfl)) pgs_nil)))
     (pss_one (ps_expr (pe_setdT (hu_of hr) (pv 2) (pe_m (pv 0) T.k_Table D_Table_outputs_of (hr.mono (by decide)) (pa_cons (pv 4) (pa_cons (pv 1) pa_nil))) (pv 3) ⟨rfl, rfl, rfl, rfl⟩))))
     (pss_one (ps_ret (pv 2))))), ?_⟩
  obtain ⟨t, aS, aE, aR, d, k, S, E', ws, out, rfl, tb, sz, hd, hin, kq⟩ := h
  obtain ⟨⟨dx, ht⟩, hS, hE, hR, nSE, nRE⟩ := id tb
  obtain ⟨vs, hvs, als⟩ := id hS
  have hSl := sz.Sl
  refine fun f hf => ?_
  have e1 : Ex H (upd H f (.dT [])) := Ex.new hf
  refine ⟨_, rfl, fget T.fT (i := 1) (e1 t _ ht) rfl rfl ⟨aS, vs, rfl, SqL.of (e1 aS _ hvs), ?_⟩⟩
  refine for_it walk_enum (fun i σ H2 => ∃ (s3 s4 : Option V) (kvs : List (List Key × V)), σ = [some (V.ref t), some (V.ref d), some (V.ref f), s3, s4] ∧ Ex H H2 ∧ H2 f = some (.dT kvs) ∧ kvs.length ≤ i ∧ ∀ r : List Nat, valV kvs (wk r) = if r ∈ (S.map (Mai.ro out E')).take i then some (nv (Mai.idx (S.map (Mai.ro out E')) r)) else none)
    ⟨_, _, [], rfl, e1, upd_same, Nat.le_refl _, fun r => by simp [valV]⟩ (fun i σ H2 _ ⟨_, _, _, _, e, _⟩ => SqL.of (e aS _ hvs)) ?_ ?_
  · rintro i x σ H2 H3 hi ⟨s3, s4, kvs, rfl, e2, hf2, hkl, hkv⟩ ⟨Tt, x1, x2, rfl, hT, rfl, hx1, hx2⟩
    cases hx1
    obtain ⟨wd, hwd, aw, rfl, haw⟩ := als.of hx2
    have hm := List.mem_of_getElem? hwd
    have e3 : Ex H2 (upd H2 Tt (.tup [.int (i : Nat), .ref aw])) := Ex.new hT
    have e03 := e2.trans e3
    refine ⟨Tt, _, rfl, SqT.of upd_same, rfl, _, _, rfl, _, _, rfl, rfl, ?_⟩
    have hf3 := e3 f _ hf2
    refine ⟨_, rfl, f, rfl, .inr ⟨_, .inl hf3⟩, ?_⟩
    refine ⟨_, rfl, t, dx, _, rfl, e03 t _ ht, zip_none (by decide +kernel), _, rfl, _, rfl, t, aS, aE, aR, d, _, k, S, E', ws, wd, out, rfl, tb.ex e03, sz, e03 d _ hd, ⟨aw, rfl, e03 aw _ haw⟩, by have := (sz.Sw wd hm).2; omega, hin wd hm, fun v H4 e4 ⟨q, ev, hq⟩ => ?_⟩
    subst ev
    have hf4 := e4 f _ hf3
    have hri : (S.map (Mai.ro out E'))[i]? = some (Mai.ro out E' wd) := by rw [List.getElem?_map, hwd]; rfl
    refine ⟨_, rfl, kvs, wk (Mai.ro out E' wd), q, hf4, rfl, by rw [wk_kV]; exact hq, szl (by have := hi; rw [als.len] at this; omega), fun v hv => ?_, fun hv => ?_⟩
    · rw [hkv] at hv
      by_cases cm : Mai.ro out E' wd ∈ (S.map (Mai.ro out E')).take i
      · refine ⟨_, _, kvs, rfl, e03.trans e4, hf4, by omega, fun r => ?_⟩
        rw [hkv, take_succ' hri]
        have : r ∈ (S.map (Mai.ro out E')).take i ++ [Mai.ro out E' wd] ↔ r ∈ (S.map (Mai.ro out E')).take i := by
          rw [List.mem_append, List.mem_singleton]
          exact ⟨fun h => h.elim id fun z => by rw [z]; exact cm, .inl⟩
        simp only [this]
      · rw [if_neg cm] at hv
        cases hv
    · have cm : Mai.ro out E' wd ∉ (S.map (Mai.ro out E')).take i := fun cm => by
        rw [hkv, if_pos cm] at hv
        cases hv
      refine ⟨_, _, _, rfl, Ex.mut (e03.trans e4) hf, upd_same, ?_, fun r => ?_⟩
      · rw [putK_new _ hv, List.length_append]
        show kvs.length + 1 ≤ i + 1
        omega
      · have hix : Mai.idx (S.map (Mai.ro out E')) (Mai.ro out E' wd) = i := by
          have h1 : Mai.idx (S.map (Mai.ro out E')) (Mai.ro out E' wd) ≤ i := Mai.idxOf_le hri
          by_cases h2 : Mai.idx (S.map (Mai.ro out E')) (Mai.ro out E' wd) = i
          · exact h2
          · refine absurd ?_ cm
            have h3 := Mai.idx_get (List.mem_of_getElem? hri)
            refine List.mem_of_getElem? (i := Mai.idx (S.map (Mai.ro out E')) (Mai.ro out E' wd)) ?_
            rw [List.getElem?_take, if_pos (by omega)]
            exact h3
        rw [take_succ' hri, putK_new _ hv]
        by_cases cx : r = Mai.ro out E' wd
        · rw [cx, if_pos (by simp), hix, valV_app_none hv]
          exact valV_pos rfl
        · rw [valV_app_ne (fun z => cx (wk_inj z).symm), hkv]
          have : r ∈ (S.map (Mai.ro out E')).take i ++ [Mai.ro out E' wd] ↔ r ∈ (S.map (Mai.ro out E')).take i := by
            rw [List.mem_append, List.mem_singleton]
            exact ⟨fun h => h.elim id fun z => absurd z cx, .inl⟩
          simp only [this]
  · rintro σ H2 ⟨s3, s4, kvs, rfl, e2, hf2, hkl, hkv⟩
    refine ⟨_, rfl, kq H2 f kvs e2 hf hf2 ⟨by rw [List.length_map, ← als.len]; exact hkl, fun r => ?_⟩⟩
    rw [hkv, als.len, List.take_of_length_le (by rw [List.length_map]; omega)]
end
end MW
/-! ## P3 -/
namespace MW
open PySem PySem.Spec PyProof.Rows L2 Evl
section
variable {P : Program} {w : World} {K : PySem.W.Frag} {mg : Str → Option Value} {base : Heap} {c : Cs}
def kdU (acc : List (List Nat)) : List (List Key × V) := kd (fun (_ : Unit) => V.bl true) (acc.map fun x => (x, ()))
theorem kdU_put (acc : List (List Nat)) (x : List Nat) : putK (kdU acc) (wk x) (.bl true) = kdU (if x ∈ acc then acc else acc ++ [x]) := by
  by_cases h : x ∈ acc
  · rw [if_pos h]
    unfold kdU
    rw [kd_put_at (f := fun (_ : Unit) => V.bl true) (x := ()) ⟨(x, ()), List.mem_map.mpr ⟨x, h, rfl⟩, rfl⟩]
    congr 1
    rw [List.map_map]
    refine List.map_congr_left fun y _ => ?_
    show (if y = x then (y, ()) else (y, ())) = (y, ())
    split <;> rfl
  · rw [if_neg h]
    unfold kdU
    rw [kd_put (f := fun (_ : Unit) => V.bl true) (x := ()) fun p hp e => ?_]
    · rw [List.map_append]
      rfl
    · obtain ⟨y, hy, rfl⟩ := List.mem_map.mp hp
      exact h (by rw [← e]; exact hy)
theorem kdU_len (acc : List (List Nat)) : (kdU acc).length = acc.length := by unfold kdU kd; rw [List.length_map, List.length_map]
theorem kdU_get {acc : List (List Nat)} {i : Nat} {k : List Key} {v : V} (h : (kdU acc)[i]? = some (k, v)) : ∃ x, acc[i]? = some x ∧ k = wk x := by
  unfold kdU kd at h
  rw [List.map_map, List.getElem?_map, Option.map_eq_some_iff] at h
  obtain ⟨x, h1, h2⟩ := h
  exact ⟨x, h1, by rw [Prod.mk.injEq] at h2; exact h2.1.symm⟩
theorem fold_succ {α β : Type} (f : α → β → α) (a : α) {l : List β} {i : Nat} {x : β} (h : l[i]? = some x) : (l.take (i + 1)).foldl f a = f ((l.take i).foldl f a) x := by rw [take_succ' h, List.foldl_append]; rfl
theorem want_len (ws acc : List (List Nat)) (x : List Nat) : (Mai.wantStep ws acc x).length ≤ acc.length + 1 := by
  unfold Mai.wantStep
  split
  · omega
  · split
    · omega
    · rw [List.length_append]; exact Nat.le_refl _
theorem further_len {k : Nat} {S : List (List Nat)} (h1 : k ≤ 4) (h2 : S.length ≤ 31) : (Mai.further k S).length ≤ 124 := by
  refine Nat.le_trans (List.length_filter_le _ _) ?_
  have h3 := flat_bound (fun w => (List.range k).map fun a => w ++ [a]) (n := k) S fun x => by simp
  have h4 : S.length * k ≤ 31 * 4 := Nat.mul_le_mul h2 h1
  omega
theorem rows_len {k : Nat} {S : List (List Nat)} (h1 : k ≤ 4) (h2 : S.length ≤ 31) : (Mai.rowsOf k S).length ≤ 155 := by
  unfold Mai.rowsOf
  rw [List.length_append]
  have := further_len h1 h2
  omega
theorem rows_word {k : Nat} {S E : List (List Nat)} (sz : Sz k S E) {r : List Nat} (h : r ∈ Mai.rowsOf k S) : Mai.okw k r ∧ r.length ≤ 32 := by
  unfold Mai.rowsOf at h
  rcases List.mem_append.mp h with h | h
  · have := sz.Sw r h
    exact ⟨this.1, by omega⟩
  · obtain ⟨⟨v, hv, a, ha, rfl⟩, _⟩ := Mai.mem_further.mp h
    have := sz.Sw v hv
    exact ⟨Mai.okw_app.mpr ⟨this.1, Mai.okw_cons.mpr ⟨ha, Mai.okw_nil _⟩⟩, by rw [List.length_append]; show _ + 1 ≤ _; omega⟩
theorem ok_Table_all_wanted {f : Addr} {fd : FuncData} (T : Tx K mg c)  (F : FnP K "all_wanted" "Table.all_wanted" s_Table_all_wanted f fd) : FnOk P w K mg base CX0 1 f fd p_Table_all_wanted (sp_Table_all_wanted P w K c) := by
  refine F.ok sc_Table_all_wanted (fun vs H Q E h => by obtain ⟨_, _, _, _, _, _, _, _, _, _, rfl, _⟩ := h; rfl) (fun cdv A outer s H vs Q E hr h => ?_)
  refine ⟨_, PSs.nox (pss_cons (ps_set (i := 2) sc_Table_all_wanted.nd rfl (Or.inl rfl) pe_dnewT)
     (pss_cons (ps_for PassesOwn.never rfl (pi_list (pe_fld (pv 0) rfl)) (pg_name (i := 3) sc_Table_all_wanted.nd rfl (Or.inl rfl))
     (pss_one (ps_for PassesOwn.never rfl (pi_list (pe_fld (pv 0) rfl)) (pg_name (i := 4) sc_Table_all_wanted.nd rfl (Or.inl rfl))
     (pss_one (ps_if (pt_cmp (pc_dnotin (hu_of hr) (pe_op op_catA (pv 3) (pv 4)) (pv 1)))
     (pss_one (ps_dput (hu_of hr) (pv 2) (pe_op op_catA (pv 3) (pv 4)) pe_bl rfl))
     pss_nil)))))
     (pss_one (ps_ret (pe_lock (pe_lc (own := [("word", 5)]) (te := (tCB (rListOf K) (tCons (tVar 5) tNil))) (by rfl) sc_Table_all_wanted.nd (pi_keys (pv 2)) (blkOk_by (N := N_Table_all_wanted) (sc := (defScope s_Table_all_wanted)) (by decide +kernel)) (fun _ _ _ _ _ => (pg_name (i := 5) sc_Table_all_wanted.nd rfl (Or.inl rfl))) (fun _ _ _ _ _ => pts_nil) (fun _ _ _ _ _ => (pe_callTy call_list_of (by rfl) T.b_list (by decide +kernel) (pa_cons (pv 5) pa_nil))))))))), ?_⟩
  obtain ⟨t, aS, aE, aR, d, k, S, E', ws, out, rfl, tb, sz, hd, kq⟩ := h
  obtain ⟨⟨dx, ht⟩, hS, hE, hR, nSE, nRE⟩ := id tb
  obtain ⟨vr, hvr, alr⟩ := id hR
  obtain ⟨ve, hve, ale⟩ := id hE
  have hSl := sz.Sl
  have hEl := sz.El
  have hrl := rows_len sz.k4 hSl
  refine fun f hf => ?_
  have e1 : Ex H (upd H f (.dT [])) := Ex.new hf
  refine ⟨_, rfl, fget T.fT (i := 3) (e1 t _ ht) rfl rfl ⟨aR, rfl, ⟨_, SqL.of (e1 aR _ hvr)⟩, for_list (xs := vr) (fun i σ H2 => ∃ (s3 s4 s5 : Option V) (acc : List (List Nat)), σ = [some (V.ref t), some (V.ref d), some (V.ref f), s3, s4, s5] ∧ Ex H H2 ∧ H2 f = some (.dT (kdU acc)) ∧ acc.length ≤ i * 32 ∧ acc = ((Mai.rowsOf k S).take i).foldl (fun acc r => E'.foldl (fun acc x => Mai.wantStep ws acc (r ++ x)) acc) [])
    ⟨_, _, _, [], rfl, e1, upd_same, Nat.zero_le _, rfl⟩ (fun i σ H2 _ ⟨_, _, _, _, _, e, _⟩ => SqL.of (e aR _ hvr)) ?_ ?_⟩⟩
  · rintro i x σ H2 hx ⟨s3, s4, s5, acc, rfl, e2, hf2, hal, hacc⟩
    obtain ⟨row, hrow, ar, rfl, har⟩ := alr.of hx
    have hrm := List.mem_of_getElem? hrow
    have hri := (List.getElem?_eq_some_iff.mp hrow).1
    refine ⟨_, rfl, fget T.fT (i := 2) (e2 t _ ht) rfl rfl ⟨aE, rfl, ⟨_, SqL.of (e2 aE _ hve)⟩, for_list (xs := ve) (fun j σ H3 => ∃ (s4 s5 : Option V) (acc' : List (List Nat)), σ = [some (V.ref t), some (V.ref d), some (V.ref f), some (V.ref ar), s4, s5] ∧ Ex H H3 ∧ H3 f = some (.dT (kdU acc')) ∧ acc'.length ≤ i * 32 + j ∧ acc' = (E'.take j).foldl (fun acc x => Mai.wantStep ws acc (row ++ x)) acc)
      ⟨_, _, acc, rfl, e2, hf2, hal, rfl⟩ (fun j σ H3 _ ⟨_, _, _, _, e, _⟩ => SqL.of (e aE _ hve)) ?_ ?_⟩⟩
    · rintro j y σ H3 hy ⟨s4, s5, acc', rfl, e3, hf3, hal3, hacc3⟩
      obtain ⟨col, hcol, ac, rfl, hac⟩ := ale.of hy
      have hcm := List.mem_of_getElem? hcol
      have hji := (List.getElem?_eq_some_iff.mp hcol).1
      have hlen : row.length + col.length < 1000000 := by
        have h1 := (rows_word sz hrm).2
        have h2 := (sz.Ew col hcm).2
        omega
      refine ⟨_, rfl, _, rfl, rcat (e3 ar _ har) (e3 ac _ hac) hlen fun q H5 e5 hq => ?_⟩
      have e05 := e3.trans e5
      have hf5 := e5 f _ hf3
      have hstep := fold_succ (fun acc x => Mai.wantStep ws acc (row ++ x)) acc hcol
      refine ⟨_, rfl, d, _, rfl, kn_get (e05 d _ hd) hq, _, rfl, ?_⟩
      by_cases cm : row ++ col ∈ ws
      · refine iteN (by rw [if_pos cm]; rfl) ⟨_, _, acc', rfl, e05, hf5, by omega, ?_⟩
        rw [hstep, ← hacc3]
        unfold Mai.wantStep
        rw [if_pos cm]
      · refine iteP (by rw [if_neg cm]; rfl) ⟨_, rfl, _, rfl, _, rfl, rcat (e05 ar _ har) (e05 ac _ hac) hlen fun q2 H6 e6 hq2 => ?_⟩
        have e06 := e05.trans e6
        have hf6 := e6 f _ hf5
        refine ⟨f, _, rfl, .inr ⟨kdU acc', wk (row ++ col), q2, hf6, rfl, by rw [wk_kV]; exact hq2, by rw [kdU_len]; exact szl (by omega), rfl⟩, ?_⟩
        refine ⟨_, _, if row ++ col ∈ acc' then acc' else acc' ++ [row ++ col], rfl, Ex.mut e06 hf, by rw [upd_same, kdU_put], ?_, ?_⟩
        · split
          · omega
          · rw [List.length_append]; show _ + 1 ≤ _; omega
        · rw [hstep, ← hacc3]
          unfold Mai.wantStep
          rw [if_neg cm]
    · rintro σ H3 ⟨s4, s5, acc', rfl, e3, hf3, hal3, hacc3⟩
      refine ⟨_, _, _, acc', rfl, e3, hf3, ?_, ?_⟩
      · have := ale.len
        rw [Nat.succ_mul]
        omega
      · rw [fold_succ _ [] hrow, ← hacc, hacc3, ale.len, List.take_length]
  · rintro σ H2 ⟨s3, s4, s5, acc, rfl, e2, hf2, hal, hacc⟩
    have hw : acc = Mai.wanted k S E' ws := by
      rw [hacc, alr.len, List.take_length]
      rfl
    subst hw
    refine ⟨f, _, hf2, True.intro, fun od => ⟨_, rfl, f, od, rfl, .inr ⟨_, upd_same, fun D hD => lc_w hD (walk_keysT.mono (fun H3 e => e f _ upd_same) fun _ _ _ _ _ _ y => y) (fun _ => rfl) (fun i v H3 => ∀ x, (Mai.wanted k S E' ws)[i]? = some x → ∃ a, v = .ref a ∧ H3 a = some (.lst (nvs x)) ∧ H a = none) (fun i v H3 acc o' h hDD nv' => fun x hx => ?_) (fun _ _ _ _ h e => fun x hx => ?_) ?_ ?_ ?_⟩⟩⟩
    · obtain ⟨a, rfl, ha, hn⟩ := h x hx
      exact ⟨a, rfl, by rw [upd_ne (fun z => nv' (by rw [z]))]; exact ha, hn⟩
    · obtain ⟨a, h1, h2, h3⟩ := h x hx
      exact ⟨a, h1, e a _ h2, h3⟩
    · rintro i x H3 H3' hi e3 ⟨accD, hDD⟩ ⟨rfl, kk, v, q, hkv, rfl, hq⟩ Q' kk2
      obtain ⟨wd, hwd, rfl⟩ := kdU_get hkv
      rw [wk_kV] at hq
      refine ⟨_, rfl, q, _, rfl, .inr (SqT.of hq), fun l hl => kk2 _ _ (Ex.new hl) (by intro z; cases z; rw [hDD] at hl; cases hl) fun y hy => ?_⟩
      rw [hwd] at hy
      cases hy
      refine ⟨l, rfl, upd_same, ?_⟩
      cases z : H l with
      | none => rfl
      | some o =>
        have nlf : l ≠ f := ne_of_none z hf
        have h5 := e3 l o (by rw [upd_ne nlf]; exact e2 l o z)
        rw [h5] at hl
        cases hl
    · have := alr.len; rw [kdU_len]; omega
    · intro H3 acc e3 hacc3 hal3 hap
      have hf3 : H3 f = some (.frz od (.dT (kdU (Mai.wanted k S E' ws)))) := e3 f _ upd_same
      have hDn : H D = none := by
        cases z : H D with
        | none => rfl
        | some o =>
          have ndf : D ≠ f := ne_of_none z hf
          rw [upd_ne ndf, e2 D o z] at hD
          cases hD
      have ndf : D ≠ f := (ne_of_none upd_same hD).symm
      have ex03 : Ex H H3 := fun a o z => e3 a o (by rw [upd_ne (ne_of_none z hf)]; exact e2 a o z)
      refine ⟨hf3, kq _ D acc (Ex.mut ex03 hf) hDn (by rw [upd_ne ndf]; exact hacc3) ⟨by rw [hal3, kdU_len], fun i v x h1 h2 => ?_⟩⟩
      obtain ⟨a, h3, h4, h5⟩ := hap i v h1 x h2
      have naf : a ≠ f := fun z => by rw [z, hf3] at h4; cases h4
      exact ⟨a, h3, by rw [upd_ne naf]; exact h4, h5⟩

theorem find_hit {α : Type} {p : α → Bool} {l : List α} {i : Nat} {x : α} (h : l[i]? = some x) (h0 : (l.take i).find? p = none) (hx : p x = true) : l.find? p = some x := by
  have e : l = l.take i ++ x :: l.drop (i + 1) := by
    conv => lhs; rw [← List.take_append_drop i l]
    congr 1
    obtain ⟨hi, rfl⟩ := List.getElem?_eq_some_iff.mp h
    exact List.drop_eq_getElem_cons hi
  rw [e, List.find?_append, h0, Option.none_or, List.find?_cons, hx]
theorem find_step {α : Type} {p : α → Bool} {l : List α} {i : Nat} {x : α} (h : l[i]? = some x) (h0 : (l.take i).find? p = none) (hx : p x = false) : (l.take (i + 1)).find? p = none := by
  rw [take_succ' h, List.find?_append, h0, Option.none_or]
  simp [hx]
theorem cut_drop {xs : List V} {n : Nat} (h : n ≤ xs.length) : cutV xs (some (n : Int)) none = xs.drop n := by
  have e1 : HT.sIx xs.length 0 (some (n : Int)) = n := by
    unfold HT.sIx
    simp
    split <;> omega
  have e2 : HT.sIx xs.length xs.length none = xs.length := rfl
  unfold cutV
  rw [e1, e2, List.take_of_length_le (by simp)]
theorem cell_s {k : Nat} {S E : List (List Nat)} {v x : List Nat} (hv : v ∈ S) (hx : x ∈ E) : Mai.Cell k S E (v ++ x) := ⟨v, List.mem_append_left _ hv, x, hx, rfl⟩
theorem cell_f {k : Nat} {S E : List (List Nat)} {v x : List Nat} (hv : v ∈ Mai.further k S) (hx : x ∈ E) : Mai.Cell k S E (v ++ x) := ⟨v, List.mem_append_right _ hv, x, hx, rfl⟩
theorem num_get {H : Hp} {f q : Addr} {kvs : List (List Key × V)} {rs : List (List Nat)} {r : List Nat} (hf : H f = some (.dT kvs)) (h : NumOk kvs rs) (hq : H q = some (.tup (nvs r))) : DGet H f (.ref q) (if r ∈ rs then some (nv (Mai.idx rs r)) else none) := by
  rw [← h.2]
  exact .inr ⟨_, wk r, q, .inl hf, rfl, by rw [wk_kV]; exact hq, rfl⟩
theorem ok_Table_extend {f : Addr} {fd : FuncData} (T : Tx K mg c) (D_Table_numbers : Mtd P w K mg base CX0 2 c.Table "numbers" p_Table_numbers (sp_Table_numbers P w K c)) (D_Table_outputs_of : Mtd P w K mg base CX0 1 c.Table "outputs_of" p_Table_outputs_of (sp_Table_outputs_of P w K c)) (D_Table_further_rows : Mtd P w K mg base CX0 1 c.Table "further_rows" p_Table_further_rows (sp_Table_further_rows P w K c)) (F : FnP K "extend" "Table.extend" s_Table_extend f fd) : FnOk P w K mg base CX0 3 f fd p_Table_extend (sp_Table_extend P w K c) := by
  refine F.ok sc_Table_extend (fun vs H Q E h => by obtain ⟨_, _, _, _, _, _, _, _, _, _, rfl, _⟩ := h; rfl) (fun cdv A outer s H vs Q E hr h => ?_)
  refine ⟨_, PSs.nox (pss_cons (ps_set (i := 2) sc_Table_extend.nd rfl (Or.inl rfl) (pe_m (pv 0) T.k_Table D_Table_numbers (hr.mono (by decide)) (pa_cons (pv 1) pa_nil)))
     (pss_cons (ps_for PassesOwn.never rfl (pi_list (pe_slice sl_list (pe_fld (pv 0) rfl) (po_some (pe_callB call_len_seq (by rfl) T.b_len PySem.boot_len (pa_cons (pe_fld (pv 0) rfl) pa_nil))) po_none)) (pg_name (i := 3) sc_Table_extend.nd rfl (Or.inl rfl))
     (pss_one (ps_if (pt_cmp (pc_dnotin (hu_of hr) (pe_m (pv 0) T.k_Table D_Table_outputs_of (hr.mono (by decide)) (pa_cons (pv 3) (pa_cons (pv 1) pa_nil))) (pv 2)))
     (pss_cons (ps_expr (pe_bm PySem.F.plainAttrs_list PySem.F.slot_list_append PySem.F.type_list_append mt_append (pe_fld (pv 0) rfl) (pa_cons (pv 3) pa_nil)))
     (pss_cons (ps_fld (pv 0) (pe_op op_cat (pe_fld (pv 0) rfl) (pe_m0 (pv 0) T.k_Table D_Table_further_rows (hr.mono (by decide)))) rfl)
     (pss_one (ps_ret pe_bl))))
     pss_nil)))
     (pss_one (ps_ret pe_bl)))), ?_⟩
  obtain ⟨t, aS, aE, aR, d, k, S, E', ws, out, rfl, tb, sz, hS30, hSw30, hd, hin, kn, ks⟩ := h
  obtain ⟨⟨dx, ht⟩, hS, hE, hR, nSE, nRE⟩ := id tb
  refine ⟨_, rfl, t, dx, _, rfl, ht, zip_none (by decide +kernel), _, rfl, t, aS, aE, aR, d, k, S, E', ws, out, rfl, tb, sz, hd, fun v hv x hx => hin _ (cell_s hv hx), fun H1 f kvs e1 hf0 hf1 num => ?_⟩
  obtain ⟨vs, hvs, als⟩ := id hS
  obtain ⟨vr, hvr, alr⟩ := id hR
  have hrl : S.length ≤ vr.length := by rw [alr.len]; unfold Mai.rowsOf; rw [List.length_append]; omega
  refine ⟨_, rfl, fget T.fT (i := 3) (e1 t _ ht) rfl rfl ⟨_, rfl, fget T.fT (i := 1) (e1 t _ ht) rfl rfl ⟨aS, vs, rfl, .inl (SqL.of (e1 aS _ hvs)), _, rfl, aR, vr, rfl, SqL.of (e1 aR _ hvr), fun p hp => ?_⟩⟩⟩
  have hcut : cutV vr (some ((vs.length : Nat) : Int)) none = vr.drop S.length := by rw [als.len]; exact cut_drop hrl
  rw [hcut]
  have e2 : Ex H1 (upd H1 p (.lst (vr.drop S.length))) := Ex.new hp
  have hp2 : upd H1 p (.lst (vr.drop S.length)) p = some (.lst (vr.drop S.length)) := upd_same
  generalize upd H1 p (.lst (vr.drop S.length)) = H2 at *
  have e02 := e1.trans e2
  have alf : Als (TW H) (vr.drop S.length) (Mai.further k S) := by
    have := alr.drop S.length
    unfold Mai.rowsOf at this
    rw [List.drop_left] at this
    exact this
  refine ⟨p, rfl, ⟨_, SqL.of hp2⟩, for_list (xs := vr.drop S.length) (fun i σ H3 => ∃ (s3 : Option V), σ = [some (V.ref t), some (V.ref d), some (V.ref f), s3] ∧ Ex H2 H3 ∧ ((Mai.further k S).take i).find? (fun r => !decide (Mai.ro out E' r ∈ S.map (Mai.ro out E'))) = none)
    ⟨_, rfl, Ex.refl _, rfl⟩ (fun i σ H3 _ ⟨_, _, e, _⟩ => SqL.of (e p _ hp2)) ?_ ?_⟩
  · rintro i x σ H3 hx ⟨s3, rfl, e3, hnone⟩
    obtain ⟨row, hrow, ar, rfl, har⟩ := alf.of hx
    have hrm := List.mem_of_getElem? hrow
    have e03 := e02.trans e3
    have hrw : row.length ≤ 32 := (rows_word sz (List.mem_append_right _ hrm)).2
    refine ⟨_, rfl, t, dx, _, rfl, e03 t _ ht, zip_none (by decide +kernel), _, rfl, _, rfl, t, aS, aE, aR, d, _, k, S, E', ws, row, out, rfl, tb.ex e03, sz, e03 d _ hd, ⟨ar, rfl, e03 ar _ har⟩, by omega, fun x hx => hin _ (cell_f hrm hx), fun v H4 e4 ⟨q, ev, hq⟩ => ?_⟩
    subst ev
    have e04 := e03.trans e4
    have hf4 : H4 f = some (.dT kvs) := (e2.trans (e3.trans e4)) f _ hf1
    refine ⟨_, rfl, f, _, rfl, num_get hf4 num hq, _, rfl, ?_⟩
    by_cases cm : Mai.ro out E' row ∈ S.map (Mai.ro out E')
    · refine iteN (by rw [if_pos cm]; rfl) ⟨_, rfl, e3.trans e4, find_step hrow hnone (nd_f cm)⟩
    · have hext : Mai.ext out k S E' = some row := find_hit hrow hnone (nd_t cm)
      obtain ⟨us, hus, hul, hpush⟩ := ws_push (hS.ex e04) (v := .ref ar) (x := row) ⟨ar, rfl, e04 ar _ har⟩
      have t1 : Tk H4 (upd H4 aS (.lst (us ++ [.ref ar]))) := tk_upd hus fun z => z
      have ntS : t ≠ aS := ne_of ht hvs fun z => by cases z
      refine iteP (by rw [if_neg cm]; rfl) ⟨_, rfl, fget T.fT (i := 1) (e04 t _ ht) rfl rfl ⟨.inl ⟨rfl, _, SqL.of hus⟩, _, rfl, aS, _, _, rfl, rfl, hus, by rw [hul]; exact szl (by omega), ?_⟩⟩
      have x5 : But (fun a => a = aS) H4 (upd H4 aS (.lst (us ++ [.ref ar]))) := fun a o na ha => by rw [upd_ne na]; exact ha
      have ht5 := x5 t _ ntS (e04 t _ ht)
      have hE5 : WsAt (upd H4 aS (.lst (us ++ [.ref ar]))) aE E' := (hE.ex e04).keep t1 (upd_ne nSE.symm)
      have n5 : ∀ a, upd H4 aS (.lst (us ++ [.ref ar])) a = none → H4 a = none := fun a z => by
        by_cases q : a = aS
        · rw [q, upd_same] at z; cases z
        · rw [upd_ne q] at z; exact z
      generalize upd H4 aS (.lst (us ++ [.ref ar])) = H5 at *
      obtain ⟨vs5, hvs5, als5⟩ := id hpush
      refine ⟨_, rfl, fget T.fT (i := 1) ht5 rfl rfl ⟨_, rfl, t, dx, _, rfl, ht5, zip_none (by decide +kernel), t, aS, dx, [.ref aE, .ref aR], k, S ++ [row], rfl, ht5, hpush, sz.k4, by rw [List.length_append]; show _ + 1 ≤ _; omega, fun y hy => ?_, fun H6 r6 e6 hr6 wr6 => ?_⟩⟩
      · rcases List.mem_append.mp hy with hy | hy
        · exact Nat.le_trans (hSw30 y hy) (by decide)
        · have : y = row := by simpa using hy
          rw [this]
          obtain ⟨⟨v, hv, a, ha, er⟩, _⟩ := Mai.mem_further.mp hrm
          rw [er, List.length_append]
          have := hSw30 v hv
          show _ + 1 ≤ _
          omega
      obtain ⟨u6, hu6, al6⟩ := id wr6
      have hu6l : u6.length ≤ 124 := by rw [al6.len]; exact further_len sz.k4 (by rw [List.length_append]; show _ + 1 ≤ _; omega)
      refine ⟨aS, r6, _, _, rfl, rfl, e6 aS _ hvs5, hu6, by rw [als5.len, List.length_append]; exact szle (by show S.length + 1 + _ < _; omega), fun aR' haR' => ⟨_, rfl, fput T.fT (i := 3) ((Ex.new haR') t _ (e6 t _ ht5)) rfl ?_⟩⟩
      have ntR : t ≠ aR' := ne_of_none (e6 t _ ht5) haR'
      have nRE' : aR' ≠ aE := by
        obtain ⟨v7, hv7, _⟩ := hE5
        exact (ne_of_none (e6 aE _ hv7) haR').symm
      have nRS' : aR' ≠ aS := (ne_of_none (e6 aS _ hvs5) haR').symm
      have x7 : But (fun a => a = t) H6 (upd (upd H6 aR' (.lst (vs5 ++ u6))) t (.ins c.Table dx (putF "_rows" (.ref aR') (fl_Table.zip [nv k, .ref aS, .ref aE, .ref aR])))) := fun a o na ha => by
        rw [upd_ne na]
        exact (Ex.new haR') a o ha
      have t7 : Tk H6 (upd (upd H6 aR' (.lst (vs5 ++ u6))) t (.ins c.Table dx (putF "_rows" (.ref aR') (fl_Table.zip [nv k, .ref aS, .ref aE, .ref aR])))) := (tk_new haR').trans (tk_upd ((Ex.new haR') t _ (e6 t _ ht5)) fun z => z)
      have gR : H aR' = none := by
        refine fresh_back e04 (n5 aR' ?_)
        exact fresh_back e6 haR'
      refine ks row hext _ aR' gR ((tk_ex e04).trans (t1.trans ((tk_ex e6).trans t7))) (fun a o na ha => x7 a o (fun z => na (.inl z)) (e6 a o (x5 a o (fun z => na (.inr z)) (e04 a o ha)))) ⟨⟨dx, ?_⟩, ?_, ?_, ?_, nSE, nRE'⟩
      · rw [upd_same, zip_put nd_Table (i := 3) rfl (by simp)]
        rfl
      · exact (hpush.ex e6).keep t7 (by rw [upd_ne ntS.symm, upd_ne nRS'.symm])
      · refine (hE5.ex e6).keep t7 ?_
        have ntE : t ≠ aE := by
          obtain ⟨v7, hv7, _⟩ := hE5
          exact ne_of ht5 hv7 fun z => by cases z
        rw [upd_ne ntE.symm, upd_ne nRE'.symm]
      · refine ⟨vs5 ++ u6, by rw [upd_ne ntR.symm, upd_same], ?_⟩
        exact (als5.mono fun _ _ _ q => (q.keep (tk_ex e6)).keep t7).app (al6.mono fun _ _ _ q => q.keep t7)
  · rintro σ H3 ⟨s3, rfl, e3, hnone⟩
    refine kn ?_ H3 (e02.trans e3)
    rw [alf.len, List.take_length] at hnone
    exact hnone

theorem ok_Table_add_column {f : Addr} {fd : FuncData} (T : Tx K mg c)  (F : FnP K "add_column" "Table.add_column" s_Table_add_column f fd) : FnOk P w K mg base CX0 1 f fd p_Table_add_column (sp_Table_add_column P w K c) := by
  refine F.ok sc_Table_add_column (fun vs H Q E h => by obtain ⟨_, _, _, _, _, _, _, _, _, rfl, _⟩ := h; rfl) (fun cdv A outer s H vs Q E hr h => ?_)
  refine ⟨_, PSs.nox (pss_cons (ps_set (i := 2) sc_Table_add_column.nd rfl (Or.inl rfl) (pe_callTy call_tuple_of (by rfl) T.b_tuple (by decide +kernel) (pa_cons (pv 1) pa_nil)))
     (pss_cons (ps_if (pt_cmpR (op_inD (hu65 hr)) (pv 2) (pe_fld (pv 0) rfl) (by rfl))
     (pss_one (ps_never))
     pss_nil)
     (pss_one (ps_expr (pe_bm PySem.F.plainAttrs_list PySem.F.slot_list_append PySem.F.type_list_append mt_append (pe_fld (pv 0) rfl) (pa_cons (pv 2) pa_nil)))))), ?_⟩
  obtain ⟨t, aS, aE, aR, wv, k, S, E', x, rfl, tb, sz, ⟨al, rfl, hal⟩, hx, kq⟩ := h
  obtain ⟨⟨dx, ht⟩, hS, hE, hR, nSE, nRE⟩ := id tb
  refine ⟨_, rfl, al, _, rfl, .inl ⟨SqL.of hal, fun q hq => ?_⟩⟩
  have e1 : Ex H (upd H q (.tup (nvs x))) := Ex.new hq
  have hq1 : TW (upd H q (.tup (nvs x))) (.ref q) x := ⟨q, rfl, upd_same⟩
  refine ⟨_, rfl, _, rfl, fget T.fT (i := 2) (e1 t _ ht) rfl rfl ⟨pw x, E'.map pw, dp_tw hq1, dp_ws (hE.ex e1), pw_sh _, list_sh pw_lay (fun x => Nat.le_trans (pw_depth x) (by decide)) _, _, rfl, ?_⟩⟩
  rw [any_eqv pw_eqv]
  obtain ⟨us, hus, hul, hpush⟩ := ws_push (hE.ex e1) hq1
  have t1 : Tk (upd H q (.tup (nvs x))) (upd (upd H q (.tup (nvs x))) aE (.lst (us ++ [.ref q]))) := tk_upd hus fun z => z
  refine iteN (d_f hx) ⟨_, rfl, fget T.fT (i := 2) (e1 t _ ht) rfl rfl ⟨.inl ⟨rfl, _, SqL.of hus⟩, _, rfl, aE, _, _, rfl, rfl, hus, by rw [hul]; exact szl (by have := sz.El; omega), ?_⟩⟩
  have ntE : t ≠ aE := ne_of (e1 t _ ht) hus fun z => by cases z
  have b1 : But (fun a => a = aE) H (upd (upd H q (.tup (nvs x))) aE (.lst (us ++ [.ref q]))) := fun a o na ha => by rw [upd_ne na]; exact e1 a o ha
  refine kq _ ((tk_new hq).trans t1) b1 ⟨⟨dx, b1 t _ ntE ht⟩, ?_, hpush, ?_, nSE, nRE⟩
  · exact (hS.ex e1).keep t1 (upd_ne nSE)
  · exact (hR.ex e1).keep t1 (upd_ne nRE)

theorem ok_Table_machine {f : Addr} {fd : FuncData} (T : Tx K mg c) (D_Table_numbers : Mtd P w K mg base CX0 2 c.Table "numbers" p_Table_numbers (sp_Table_numbers P w K c)) (D_Table_outputs_of : Mtd P w K mg base CX0 1 c.Table "outputs_of" p_Table_outputs_of (sp_Table_outputs_of P w K c)) (F : FnP K "machine" "Table.machine" s_Table_machine f fd) : FnOk P w K mg base CX0 3 f fd p_Table_machine (sp_Table_machine P w K c) := by
  refine F.ok sc_Table_machine (fun vs H Q E h => by obtain ⟨_, _, _, _, _, _, _, _, _, _, _, rfl, _⟩ := h; rfl) (fun cdv A outer s H vs Q E hr h => ?_)
  refine ⟨_, PSs.nox (pss_cons (ps_set (i := 3) sc_Table_machine.nd rfl (Or.inl rfl) (pe_m (pv 0) T.k_Table D_Table_numbers (hr.mono (by decide)) (pa_cons (pv 2) pa_nil)))
     (pss_cons (ps_set (i := 4) sc_Table_machine.nd rfl (Or.inl rfl) (pe_lst pa_nil))
     (pss_cons (ps_for PassesOwn.never rfl (pi_list (pe_fld (pv 0) rfl)) (pg_name (i := 5) sc_Table_machine.nd rfl (Or.inl rfl))
     (pss_cons (ps_set (i := 6) sc_Table_machine.nd rfl (Or.inl rfl) (pe_lst pa_nil))
     (pss_cons (ps_for PassesOwn.never rfl (pi_range1 (by rfl) T.b_range (pa_cons (pe_fld (pv 0) rfl) pa_nil)) (pg_name (i := 7) sc_Table_machine.nd rfl (Or.inl rfl))
     (pss_cons (ps_set (i := 8) sc_Table_machine.nd rfl (Or.inl rfl) (pe_m (pv 0) T.k_Table D_Table_outputs_of (hr.mono (by decide)) (pa_cons (pe_op op_catA (pv 5) (pe_tup (pa_cons (pv 7) pa_nil))) (pa_cons (pv 2) pa_nil))))
     (pss_cons (ps_if (pt_cmp (pc_dnotin (hu_of hr) (pv 8) (pv 3)))
     (pss_one (ps_never))
     pss_nil)
     (pss_one (ps_expr (pe_bm PySem.F.plainAttrs_list PySem.F.slot_list_append PySem.F.type_list_append mt_append (pv 6) (pa_cons (pe_dget (hu_of hr) (pv 3) (pv 8) (fun _ _ => rfl)) pa_nil)))))))
     (pss_one (ps_expr (pe_bm PySem.F.plainAttrs_list PySem.F.slot_list_append PySem.F.type_list_append mt_append (pv 4) (pa_cons (pe_callTy call_tuple_of (by rfl) T.b_tuple (by decide +kernel) (pa_cons (pv 6) pa_nil)) pa_nil)))))))
     (pss_one (ps_ret (pe_tup (pa_cons (pe_fld (pv 0) rfl) (pa_cons (pv 1) (pa_cons (pe_callTy call_tuple_of (by rfl) T.b_tuple (by decide +kernel) (pa_cons (pv 4) pa_nil)) (pa_cons (pe_callTy call_tuple_ofF (by rfl) T.b_tuple (by decide +kernel) (pa_cons (pe_lc (own := [("word", 5)]) (te := (tDGet (tVar 2) (tVar 5))) (by rfl) sc_Table_machine.nd (pi_list (pe_fld (pv 0) rfl)) (blkOk_by (N := N_Table_machine) (sc := (defScope s_Table_machine)) (by decide +kernel)) (fun _ _ _ _ _ => (pg_name (i := 5) sc_Table_machine.nd rfl (Or.inl rfl))) (fun _ _ _ _ _ => pts_nil) (fun _ _ _ _ _ => (pe_dget (hu_of hr) (pv 2) (pv 5) (fun _ _ => rfl)))) pa_nil)) pa_nil)))))))))), ?_⟩
  obtain ⟨t, aS, aE, aR, d, k, o, S, E', ws, out, rfl, tb, sz, hd, hin, hE0, hcl, kq⟩ := h
  obtain ⟨⟨dx, ht⟩, hS, hE, hR, nSE, nRE⟩ := id tb
  have hk4 := sz.k4
  have hSl := sz.Sl
  refine ⟨_, rfl, t, dx, _, rfl, ht, zip_none (by decide +kernel), _, rfl, t, aS, aE, aR, d, k, S, E', ws, out, rfl, tb, sz, hd, fun v hv x hx => hin _ (cell_s hv hx), fun H1 f kvs e1 hf0 hf1 num => ?_⟩
  obtain ⟨vs, hvs, als⟩ := id hS
  refine ⟨by decide, fun m0 hm0 => ?_⟩
  have e2 : Ex H1 (upd H1 m0 (.lst [])) := Ex.new hm0
  have e02 := e1.trans e2
  have hm0' := fresh_back e1 hm0
  have rowE : ∀ v ∈ S, ∀ a, a < k → ∀ x ∈ E', v ++ [a] ++ x ∈ ws := fun v hv a ha x hx => by
    by_cases c : v ++ [a] ∈ S
    · exact hin _ (cell_s c hx)
    · exact hin _ (cell_f (Mai.mem_further.mpr ⟨⟨v, hv, a, ha, rfl⟩, c⟩) hx)
  refine ⟨_, rfl, fget T.fT (i := 1) (e02 t _ ht) rfl rfl ⟨aS, rfl, ⟨_, SqL.of (e02 aS _ hvs)⟩, for_list (xs := vs) (fun i σ H2 => ∃ (s5 s6 s7 s8 : Option V), σ = [some (V.ref t), some (nv o), some (V.ref d), some (V.ref f), some (V.ref m0), s5, s6, s7, s8] ∧ Ex H1 H2 ∧ WsAt H2 m0 ((S.take i).map fun w => (List.range k).map fun a => Mai.idx (S.map (Mai.ro out E')) (Mai.ro out E' (w ++ [a]))))
    ⟨_, _, _, _, rfl, e2, [], upd_same, Als.nil⟩ (fun i σ H2 _ ⟨_, _, _, _, _, e, _⟩ => SqL.of (e aS _ (e1 aS _ hvs))) ?_ ?_⟩⟩
  · rintro i x σ H2 hx ⟨s5, s6, s7, s8, rfl, e3, hm3⟩
    obtain ⟨wd, hwd, aw, rfl, haw⟩ := als.of hx
    have hwm := List.mem_of_getElem? hwd
    have e03 := e1.trans e3
    refine ⟨by decide, fun n0 hn0 => ?_⟩
    have e4 : Ex H2 (upd H2 n0 (.lst [])) := Ex.new hn0
    refine ⟨_, rfl, fget T.fT (i := 0) ((e03.trans e4) t _ ht) rfl rfl ⟨_, rfl, by omega, by omega, for_range (fun j σ H3 => ∃ (s7 s8 : Option V), σ = [some (V.ref t), some (nv o), some (V.ref d), some (V.ref f), some (V.ref m0), some (V.ref aw), some (V.ref n0), s7, s8] ∧ Ex H2 H3 ∧ H3 n0 = some (.lst (nvs ((List.range j).map fun a => Mai.idx (S.map (Mai.ro out E')) (Mai.ro out E' (wd ++ [a]))))))
      ⟨_, _, rfl, e4, upd_same⟩ ?_ ?_⟩⟩
    · rintro j σ H3 hj ⟨s7, s8, rfl, e5, hn3⟩
      have hjk : j < k := by omega
      have e05 := e03.trans e5
      refine ⟨_, rfl, t, dx, _, rfl, e05 t _ ht, zip_none (by decide +kernel), _, rfl, _, rfl, sz1, fun p hp => ?_⟩
      have e6 : Ex H3 (upd H3 p (.tup [.int (0 + (j : Int))])) := Ex.new hp
      have hp' : upd H3 p (.tup [.int (0 + (j : Int))]) p = some (.tup (nvs [j])) := by rw [upd_same, Int.zero_add]; rfl
      refine rcat (v := wd) (w := [j]) (e6 aw _ (e05 aw _ haw)) hp' (by have := (sz.Sw wd hwm).2; show _ + 1 < _; omega) fun q H5 e7 hq => ?_
      have e57 := e6.trans e7
      have e07 := e05.trans e57
      refine ⟨_, rfl, t, aS, aE, aR, d, _, k, S, E', ws, wd ++ [j], out, rfl, tb.ex e07, sz, e07 d _ hd, ⟨q, rfl, hq⟩, by have := (sz.Sw wd hwm).2; rw [List.length_append]; show _ + 1 ≤ _; omega, rowE wd hwm j hjk, fun v H6 e8 ⟨q2, ev, hq2⟩ => ?_⟩
      subst ev
      have e08 := e07.trans e8
      have e58 := e57.trans e8
      have hf6 : H6 f = some (.dT kvs) := e58 f _ (e5 f _ (e3 f _ hf1))
      have hmem := hcl wd hwm j hjk
      have hg := num_get hf6 num hq2
      refine ⟨_, rfl, _, rfl, f, _, rfl, hg, _, rfl, iteN (by rw [if_pos hmem]; rfl) ?_⟩
      rw [if_pos hmem] at hg
      have hn6 := e58 n0 _ hn3
      refine ⟨_, rfl, .inl ⟨rfl, _, SqL.of hn6⟩, _, rfl, _, rfl, f, _, rfl, hg, n0, _, _, rfl, rfl, hn6, by rw [nvs_len, List.length_map, List.length_range]; exact szl (by omega), _, _, rfl, Ex.mut (e5.trans e58) hn0, ?_⟩
      rw [upd_same, range_map_snoc, nvs_app]
      rfl
    · rintro σ H3 ⟨s7, s8, rfl, e5, hn3⟩
      have ek : (k : Int).toNat = k := by omega
      have hn3' : H3 n0 = some (.lst (nvs ((List.range k).map fun a => Mai.idx (S.map (Mai.ro out E')) (Mai.ro out E' (wd ++ [a]))))) := by
        rw [← ek]
        exact hn3
      obtain ⟨um, hum, _⟩ := id hm3
      have hum3 := e5 m0 _ hum
      refine ⟨_, rfl, .inl ⟨rfl, _, SqL.of hum3⟩, _, rfl, n0, _, rfl, .inl ⟨SqL.of hn3', fun l hl => ?_⟩⟩
      obtain ⟨us, hus, hul, hpush⟩ := ws_push (hm3.ex (e5.trans (Ex.new (o := HO.tup (nvs ((List.range k).map fun a => Mai.idx (S.map (Mai.ro out E')) (Mai.ro out E' (wd ++ [a]))))) hl))) (v := .ref l) ⟨l, rfl, upd_same⟩
      refine ⟨m0, _, _, rfl, rfl, hus, by rw [hul, List.length_map, List.length_take]; exact szl (by omega), _, _, _, _, rfl, Ex.mut ((e3.trans e5).trans (Ex.new hl)) hm0, ?_⟩
      rw [take_succ' hwd, List.map_append]
      exact hpush
  · rintro σ H2 ⟨s5, s6, s7, s8, rfl, e3, hm3⟩
    rw [als.len, List.take_length] at hm3
    obtain ⟨um, hum, alm⟩ := id hm3
    have e03 := e1.trans e3
    refine ⟨_, rfl, fget T.fT (i := 0) (e03 t _ ht) rfl rfl ⟨_, rfl, _, rfl, m0, _, rfl, .inl ⟨SqL.of hum, fun l hl => ?_⟩⟩⟩
    have e4 : Ex H2 (upd H2 l (.tup um)) := Ex.new hl
    have hl4 : upd H2 l (.tup um) l = some (.tup um) := upd_same
    generalize upd H2 l (.tup um) = H4 at *
    have e04 := e03.trans e4
    refine ⟨_, rfl, fget T.fT (i := 1) (e04 t _ ht) rfl rfl ⟨aS, rfl, ⟨_, SqL.of (e04 aS _ hvs)⟩, fun D hD => lc_w hD (walk_list.mono (fun H5 e => SqL.of (e aS _ (e04 aS _ hvs))) fun _ _ _ _ _ _ y => y) (fun _ => rfl) (fun i v _ => ∀ x, S[i]? = some x → v = nv (out x)) (fun _ _ _ _ _ h _ _ => h) (fun _ _ _ _ h _ => h) ?_ (by rw [als.len]; omega) ?_⟩⟩
    · rintro i x H5 H5' hi e5 ⟨accD, hDD⟩ ⟨rfl, hx⟩ Q' kk
      obtain ⟨wd, hwd, aw, rfl, haw⟩ := als.of hx
      have hwm := List.mem_of_getElem? hwd
      have hww : wd ∈ ws := by have := hin _ (cell_s (k := k) hwm hE0); rw [List.append_nil] at this; exact this
      have e05 := e04.trans e5
      refine ⟨_, rfl, _, rfl, d, _, rfl, kn_some (e05 d _ hd) (e05 aw _ haw) hww, kk _ _ (Ex.refl _) (by intro z; cases z) fun y hy => ?_⟩
      rw [hwd] at hy
      cases hy
      rfl
    · intro H5 acc e5 hacc hal hap
      have eacc : acc = nvs (S.map out) := by
        unfold nvs
        rw [List.map_map]
        exact vals_each (by rw [hal, als.len]) fun i v x h1 h2 => hap i v h1 x h2
      subst eacc
      refine ⟨D, _, rfl, SqL.of hacc, fun l2 ob hl2 hob => ⟨sz4, fun p hp => ?_⟩⟩
      have e6 := (Ex.new (o := HO.frz ob (.tup (nvs (S.map out)))) hl2).trans (Ex.new (o := HO.tup [nv k, nv o, .ref l, .ref l2]) hp)
      have e46 := e5.trans e6
      refine kq _ _ (e04.trans e46) ⟨p, l, l2, um, rfl, upd_same, e46 l _ hl4, alm.mono fun _ _ _ q => (q.keep (tk_ex e4)).keep (tk_ex e46), ob, ?_, hob⟩
      rw [upd_ne (ne_of_none upd_same hp), upd_same]
      rfl

theorem findSome_hit {β : Type} {f : Nat → Option β} {b : β} : ∀ {n i : Nat}, i < n → (∀ j, j < i → f j = none) → f i = some b → (List.range n).findSome? f = some b
  | 0, i, h, _, _ => by omega
  | n + 1, i, h, h0, hb => by
    rw [List.range_succ, List.findSome?_append]
    by_cases c : i < n
    · rw [findSome_hit c h0 hb]; rfl
    · have : i = n := by omega
      subst this
      have h1 : (List.range i).findSome? f = none := List.findSome?_eq_none_iff.mpr fun x hx => h0 x (List.mem_range.mp hx)
      rw [h1]
      simp [hb]
theorem findSome_no {β : Type} {f : Nat → Option β} {n : Nat} (h0 : ∀ j, j < n → f j = none) : (List.range n).findSome? f = none := List.findSome?_eq_none_iff.mpr fun x hx => h0 x (List.mem_range.mp hx)
theorem run_take (M : Mai.Mach) (s : Nat) {w : List Nat} {i x : Nat} (h : w[i]? = some x) : M.run s (w.take (i + 1)) = M.step (M.run s (w.take i)) x := by
  unfold Mai.Mach.run
  exact fold_succ _ _ h
theorem ok_Table_mistake {f : Addr} {fd : FuncData} (T : Tx K mg c) (D_Table_machine : Mtd P w K mg base CX0 3 c.Table "machine" p_Table_machine (sp_Table_machine P w K c)) (F : FnP K "mistake" "Table.mistake" s_Table_mistake f fd) : FnOk P w K mg base CX0 4 f fd p_Table_mistake (sp_Table_mistake P w K c) := by
  refine F.ok sc_Table_mistake (fun vs H Q E h => by obtain ⟨_, _, _, _, _, _, _, _, _, _, _, rfl, _⟩ := h; rfl) (fun cdv A outer s H vs Q E hr h => ?_)
  refine ⟨_, PSs.nox (pss_cons (ps_set (i := 3) sc_Table_mistake.nd rfl (Or.inl rfl) (pe_m (pv 0) T.k_Table D_Table_machine (hr.mono (by decide)) (pa_cons (pv 1) (pa_cons (pv 2) pa_nil))))
     (pss_cons (ps_for PassesOwn.never rfl (pi_enum (by rfl) T.b_enumerate (pa_cons (pe_fld (pv 0) rfl) pa_nil)) (pg_tup (by rfl) (pgs_cons (pg_name (i := 4) sc_Table_mistake.nd rfl (Or.inl rfl)) (pgs_cons (pg_name (i := 5) sc_Table_mistake.nd rfl (Or.inl rfl)) pgs_nil)))
     (pss_one (ps_for PassesOwn.never rfl (pi_list (pe_fld (pv 0) rfl)) (pg_name (i := 6) sc_Table_mistake.nd rfl (Or.inl rfl))
     (pss_cons (ps_set (i := 7) sc_Table_mistake.nd rfl (Or.inl rfl) (pv 4))
     (pss_cons (ps_for PassesOwn.never rfl (pi_tup (pv 6)) (pg_name (i := 8) sc_Table_mistake.nd rfl (Or.inl rfl))
     (pss_one (ps_set (i := 7) sc_Table_mistake.nd rfl (Or.inl rfl) (pe_ix ix_tup (pe_ix ix_tup (pe_ix ix_tup (pv 3) pe_int (fun _ _ => rfl)) (pv 7) (fun _ _ => rfl)) (pv 8) (fun _ _ => rfl)))))
     (pss_one (ps_if (pt_cmpR op_ne (pe_ix ix_tup (pe_ix ix_tup (pv 3) pe_int (fun _ _ => rfl)) (pv 7) (fun _ _ => rfl)) (pe_dget (hu_of hr) (pv 2) (pe_op op_catA (pv 5) (pv 6)) (fun _ _ => rfl)) (by rfl))
     (pss_one (ps_ret (pe_tup (pa_cons (pe_callTy call_list_of (by rfl) T.b_list (by decide +kernel) (pa_cons (pv 5) pa_nil)) (pa_cons (pe_callTy call_list_of (by rfl) T.b_list (by decide +kernel) (pa_cons (pv 6) pa_nil)) pa_nil)))))
     pss_nil)))))))
     (pss_one (ps_ret pe_non)))), ?_⟩
  obtain ⟨t, aS, aE, aR, d, k, o, S, E', ws, out, rfl, tb, sz, hd, hin, hE0, hcl, kn, ks⟩ := h
  obtain ⟨⟨dx, ht⟩, hS, hE, hR, nSE, nRE⟩ := id tb
  have hk4 := sz.k4
  have hSl := sz.Sl
  have hEl := sz.El
  refine ⟨_, rfl, t, dx, _, rfl, ht, zip_none (by decide +kernel), _, rfl, _, rfl, t, aS, aE, aR, d, k, o, S, E', ws, out, rfl, tb, sz, hd, hin, hE0, hcl, fun mv H1 e1 hM => ?_⟩
  obtain ⟨vs, hvs, als⟩ := id hS
  obtain ⟨ve, hve, ale⟩ := id hE
  obtain ⟨ma, mb, md, rs, rfl, hma, hmb, hmr, hmd⟩ := id hM
  have hMn : (Mai.machP out k o S E').n = S.length := Mai.mach_n
  have hMrow : ∀ s, s < S.length → ((Mai.machP out k o S E').mv)[s]? = some ((Mai.machP out k o S E').row s) := fun s hs => by
    unfold Mai.Mach.row
    rw [List.getD_eq_getElem?_getD, List.getElem?_eq_getElem (by simp [Mai.machP]; exact hs)]
    rfl
  have hMat : ∀ s, s < S.length → ((Mai.machP out k o S E').ou)[s]? = some ((Mai.machP out k o S E').at_ s) := fun s hs => getD_some (by simp [Mai.machP]; exact hs)
  have hMst : ∀ s a, s < S.length → a < k → ((Mai.machP out k o S E').row s)[a]? = some ((Mai.machP out k o S E').step s a) ∧ (Mai.machP out k o S E').step s a < S.length := fun s a hs ha => by
    refine ⟨?_, (Mai.mach_next hcl hs ha).1⟩
    unfold Mai.Mach.step
    exact getD_some (by rw [Mai.mach_row hs, List.length_map, List.length_range]; exact ha)
  generalize Mai.machP out k o S E' = M at *
  refine ⟨_, rfl, fget T.fT (i := 1) (e1 t _ ht) rfl rfl ⟨aS, vs, rfl, SqL.of (e1 aS _ hvs), ?_⟩⟩
  refine for_it walk_enum (fun i σ H2 => ∃ (s4 s5 s6 s7 s8 : Option V), σ = [some (V.ref t), some (nv o), some (V.ref d), some (V.ref ma), s4, s5, s6, s7, s8] ∧ Ex H1 H2 ∧ ∀ j, j < i → Mai.mistAt out M S E' j = none)
    ⟨_, _, _, _, _, rfl, Ex.refl _, fun j hj => by omega⟩ (fun i σ H2 _ ⟨_, _, _, _, _, _, e, _⟩ => SqL.of (e aS _ (e1 aS _ hvs))) ?_ ?_
  · rintro i x σ H2 H3 hi ⟨s4, s5, s6, s7, s8, rfl, e2, hno⟩ ⟨Tt, x1, x2, rfl, hT, rfl, hx1, hx2⟩
    cases hx1
    obtain ⟨wd, hwd, aw, rfl, haw⟩ := als.of hx2
    have hwm := List.mem_of_getElem? hwd
    have hiS : i < S.length := (List.getElem?_eq_some_iff.mp hwd).1
    have hgd : S.getD i [] = wd := by rw [List.getD_eq_getElem?_getD, hwd]; rfl
    have e3 : Ex H2 (upd H2 Tt (.tup [.int (i : Nat), .ref aw])) := Ex.new hT
    have e13 := e2.trans e3
    have e03 := e1.trans e13
    refine ⟨Tt, _, rfl, SqT.of upd_same, rfl, _, _, rfl, _, _, rfl, rfl, ?_⟩
    generalize upd H2 Tt (.tup [.int (i : Nat), .ref aw]) = H3 at *
    refine ⟨_, rfl, fget T.fT (i := 2) (e03 t _ ht) rfl rfl ⟨aE, rfl, ⟨_, SqL.of (e03 aE _ hve)⟩, for_list (xs := ve) (fun j σ H4 => ∃ (s6 s7 s8 : Option V), σ = [some (V.ref t), some (nv o), some (V.ref d), some (V.ref ma), some (nv i), some (V.ref aw), s6, s7, s8] ∧ Ex H3 H4 ∧ (E'.take j).find? (fun x => !decide (M.out i x = out (S.getD i [] ++ x))) = none)
      ⟨_, _, _, rfl, Ex.refl _, rfl⟩ (fun j σ H4 _ ⟨_, _, _, _, e, _⟩ => SqL.of (e aE _ (e03 aE _ hve))) ?_ ?_⟩⟩
    · rintro j y σ H4 hy ⟨s6, s7, s8, rfl, e4, hnone⟩
      obtain ⟨col, hcol, ac, rfl, hac⟩ := ale.of hy
      have hcm := List.mem_of_getElem? hcol
      have hcok := (sz.Ew col hcm).1
      have e14 := e13.trans e4
      have e04 := e1.trans e14
      refine ⟨_, rfl, _, rfl, ac, rfl, ⟨_, SqT.of (e04 ac _ hac)⟩, for_tup (xs := nvs col) (fun l σ H5 => ∃ (s8 : Option V), σ = [some (V.ref t), some (nv o), some (V.ref d), some (V.ref ma), some (nv i), some (V.ref aw), some (V.ref ac), some (nv (M.run i (col.take l))), s8] ∧ Ex H4 H5 ∧ M.run i (col.take l) < S.length)
        ⟨_, rfl, Ex.refl _, hiS⟩ (fun l σ H5 _ ⟨_, _, e, _⟩ => SqT.of (e ac _ (e04 ac _ hac))) ?_ ?_⟩
      · rintro l x σ H5 hx ⟨s8, rfl, e5, hlt⟩
        obtain ⟨a, ha, rfl⟩ := nvs_of hx
        have hak : a < k := hcok a (List.mem_of_getElem? ha)
        obtain ⟨g1, g2⟩ := hMst _ a hlt hak
        obtain ⟨x2, hx2, a2, rfl, ha2⟩ := hmr.get (hMrow _ hlt)
        have e15 := e14.trans e5
        refine ⟨_, rfl, ma, _, _, _, rfl, rfl, SqT.of (e15 ma _ hma), at_nat (j := 2) rfl rfl, _, rfl, mb, _, _, _, rfl, rfl, SqT.of (e15 mb _ hmb), at_nat rfl hx2, _, rfl, a2, _, _, _, rfl, rfl, SqT.of (e15 a2 _ ha2), at_nat rfl (nvs_get g1), some (nv a), ?_, e5, ?_⟩
        · rw [run_take M i ha]
          rfl
        · rw [run_take M i ha]
          exact g2
      · rintro σ H5 ⟨s8, rfl, e5, hlt⟩
        rw [nvs_len, List.take_length] at hlt
        have erun : M.run i (col.take (nvs col).length) = M.run i col := by rw [nvs_len, List.take_length]
        rw [erun]
        have e15 := e14.trans e5
        have e05 := e1.trans e15
        have hat := hMat _ hlt
        refine ⟨_, rfl, ma, _, _, _, rfl, rfl, SqT.of (e15 ma _ hma), at_nat (j := 3) rfl rfl, _, rfl, md, _, _, _, rfl, rfl, sqT_rd ((tk_ex e15).fz hmd).rd, at_nat rfl (nvs_get hat), _, rfl, _, rfl, _, rfl, rcat (e05 aw _ haw) (e05 ac _ hac) (by have := (sz.Sw wd hwm).2; have := (sz.Ew col hcm).2; omega) fun q H6 e6 hq => ?_⟩
        have e06 := e05.trans e6
        refine ⟨d, _, rfl, kn_some (e06 d _ hd) hq (hin _ (cell_s hwm hcm)), rfl, _, rfl, ?_⟩
        by_cases cm : M.out i col = out (wd ++ col)
        · refine iteN (nd_f (congrArg nv cm)) ⟨_, _, _, rfl, e4.trans (e5.trans e6), find_step hcol hnone (nd_f (by rw [hgd]; exact cm))⟩
        · have hfind : E'.find? (fun x => !decide (M.out i x = out (S.getD i [] ++ x))) = some col := find_hit hcol hnone (nd_t (by rw [hgd]; exact cm))
          have hmist : Mai.mistP out M S E' = some (i, col) := by
            refine findSome_hit hiS hno ?_
            unfold Mai.mistAt
            rw [hfind]
            rfl
          refine iteP (nd_t fun z => cm (nv_inj z)) ⟨_, rfl, aw, _, rfl, .inr (SqT.of (e06 aw _ haw)), fun l1 hl1 => ?_⟩
          have e7 : Ex H6 (upd H6 l1 (.lst (nvs wd))) := Ex.new hl1
          refine ⟨_, rfl, ac, _, rfl, .inr (SqT.of ((e06.trans e7) ac _ hac)), fun l2 hl2 => ⟨sz2, fun p hp => ?_⟩⟩
          have n12 : l1 ≠ l2 := ne_of_none upd_same hl2
          have e8 := (Ex.new (o := HO.lst (nvs col)) hl2).trans (Ex.new (o := HO.tup [.ref l1, .ref l2]) hp)
          refine ks i col hmist _ p (.ref l1) (.ref l2) ((e06.trans e7).trans e8) upd_same ⟨l1, rfl, ?_⟩ ⟨l2, rfl, ?_⟩
          · rw [hgd]
            exact e8 l1 _ upd_same
          · rw [upd_ne (ne_of_none upd_same hp), upd_same]
    · rintro σ H4 ⟨s6, s7, s8, rfl, e4, hnone⟩
      rw [ale.len, List.take_length] at hnone
      refine ⟨_, _, _, _, _, rfl, e13.trans e4, fun j hj => ?_⟩
      by_cases c : j < i
      · exact hno j c
      · have : j = i := by omega
        subst this
        unfold Mai.mistAt
        rw [hnone]
        rfl
  · rintro σ H2 ⟨s4, s5, s6, s7, s8, rfl, e2, hno⟩
    rw [als.len] at hno
    exact kn (findSome_no hno) H2 (e1.trans e2)
end
end MW
/-! ## W9 -/
namespace MW
open PySem PySem.Spec PyProof.Rows L2 Evl
/-! ### labels: which address serves what -/
structure Lb (H : Hp) (lb : Addr → Nat) : Prop where
  nt : ∀ a u, IsT u → H a = some u → lb a = 0
  fr : ∀ a, H a = none → lb a = 0
structure St (L : List Nat) (lb lb' : Addr → Nat) (H H' : Hp) : Prop where
  kp : ∀ a o, H a = some o → lb a ∉ L → H' a = some o
  sm : ∀ a, H a ≠ none → lb' a = lb a
  al : ∀ a, H a ≠ none → H' a ≠ none
  z : 0 ∉ L
  ok : Lb H' lb'
  ok0 : Lb H lb
section
variable {L M1 M2 : List Nat} {lb lb' lb1 lb2 : Addr → Nat} {H H' H1 H2 : Hp}
theorem St.refl (ok : Lb H lb) : St [] lb lb H H := ⟨fun _ _ h _ => h, fun _ _ => rfl, fun _ h => h, by simp, ok, ok⟩
theorem St.trans (a : St M1 lb lb1 H H1) (b : St M2 lb1 lb2 H1 H2) : St (M1 ++ M2) lb lb2 H H2 where
  kp x o h n := by
    rw [List.mem_append, not_or] at n
    exact b.kp x o (a.kp x o h n.1) (by rw [a.sm x (by rw [h]; exact fun z => by cases z)]; exact n.2)
  sm x h := (b.sm x (a.al x h)).trans (a.sm x h)
  al x h := b.al x (a.al x h)
  z := by rw [List.mem_append, not_or]; exact ⟨a.z, b.z⟩
  ok := b.ok
  ok0 := a.ok0
theorem St.mono (a : St L lb lb' H H') (h : ∀ n ∈ L, n ∈ M1) (z : 0 ∉ M1) : St M1 lb lb' H H' := ⟨fun x o e n => a.kp x o e fun m => n (h _ m), a.sm, a.al, z, a.ok, a.ok0⟩
theorem St.new (ok : Lb H lb) (e : Ex H H') (sm : ∀ a, H a ≠ none → lb' a = lb a) (nt : ∀ a, H a = none → lb' a ≠ 0 → ∃ o, H' a = some o ∧ ¬ IsT o) : St [] lb lb' H H' where
  kp a o h _ := e a o h
  sm := sm
  al a h := by
    cases z : H a with
    | none => exact absurd z h
    | some o => rw [e a o z]; exact fun q => by cases q
  z := by simp
  ok := ⟨fun a u t h => by
    cases z : H a with
    | none =>
      by_cases q : lb' a = 0
      · exact q
      · obtain ⟨o, h1, h2⟩ := nt a z q
        rw [h1] at h
        cases h
        exact absurd t h2
    | some o =>
      have h2 := e a o z
      rw [h] at h2
      cases h2
      rw [sm a (by rw [z]; exact fun q => by cases q)]
      exact ok.nt a u t z, fun a h => by
    have h1 := fresh_back e h
    by_cases q : lb' a = 0
    · exact q
    · obtain ⟨o, h2, _⟩ := nt a h1 q
      rw [h2] at h
      cases h⟩
  ok0 := ok
theorem St.ex (ok : Lb H lb) (e : Ex H H') : St [] lb lb H H' := .new ok e (fun _ _ => rfl) fun a h q => absurd (ok.fr a h) q
theorem St.upd {a : Addr} {o u : HO} {n : Nat} (ok : Lb H lb) (h : H a = some o) (hl : lb a = n) (hn : n ≠ 0) (hu : ¬ IsT u) : St [n] lb lb H (L2.upd H a u) where
  kp b x e m := by
    have : b ≠ a := fun q => m (by rw [q, hl]; exact List.mem_singleton.mpr rfl)
    rw [upd_ne this]
    exact e
  sm _ _ := rfl
  al b e := by
    by_cases q : b = a
    · rw [q, upd_same]; exact fun z => by cases z
    · rw [upd_ne q]; exact e
  z := fun q => hn (List.mem_singleton.mp q).symm
  ok := ⟨fun b x t e => by
    by_cases q : b = a
    · rw [q, upd_same] at e; cases e; exact absurd t hu
    · rw [upd_ne q] at e; exact ok.nt b x t e, fun b e => by
    by_cases q : b = a
    · rw [q, upd_same] at e; cases e
    · rw [upd_ne q] at e; exact ok.fr b e⟩
  ok0 := ok
theorem St.gen {Z : Addr → Prop} (ok : Lb H lb) (b : But Z H H') (hz : ∀ a, Z a → lb a ∈ L) (z : 0 ∉ L) (hn : ∀ a, Z a → ∃ o, H' a = some o ∧ ¬ IsT o) (sm : ∀ a, H a ≠ none → lb' a = lb a) (nt : ∀ a, H a = none → lb' a ≠ 0 → ∃ o, H' a = some o ∧ ¬ IsT o) : St L lb lb' H H' where
  kp a o h n := b a o (fun q => n (hz a q)) h
  sm := sm
  al a h := by
    by_cases q : Z a
    · obtain ⟨o, e, _⟩ := hn a q
      rw [e]; exact fun q => by cases q
    · cases e : H a with
      | none => exact absurd e h
      | some o => rw [b a o q e]; exact fun q => by cases q
  z := z
  ok := ⟨fun a u t h => by
    by_cases q : Z a
    · obtain ⟨o, e, n⟩ := hn a q
      rw [e] at h; cases h; exact absurd t n
    · cases e : H a with
      | none =>
        by_cases w : lb' a = 0
        · exact w
        · obtain ⟨o, e1, n⟩ := nt a e w
          rw [e1] at h; cases h; exact absurd t n
      | some o =>
        have e1 := b a o q e
        rw [h] at e1; cases e1
        rw [sm a (by rw [e]; exact fun q => by cases q)]
        exact ok.nt a u t e, fun a h => by
    by_cases q : Z a
    · obtain ⟨o, e, n⟩ := hn a q
      rw [e] at h; cases h
    · cases e : H a with
      | none =>
        by_cases w : lb' a = 0
        · exact w
        · obtain ⟨o, e1, n⟩ := nt a e w
          rw [e1] at h; cases h
      | some o => rw [b a o q e] at h; cases h⟩
  ok0 := ok
theorem St.at (s : St L lb lb' H H') {a : Addr} {o : HO} {n : Nat} (h : H a = some o) (hl : lb a = n) (hn : n ∉ L := by decide) : H' a = some o := s.kp a o h (by rw [hl]; exact hn)
theorem St.lab (s : St L lb lb' H H') {a : Addr} {o : HO} {n : Nat} (h : H a = some o) (hl : lb a = n) : lb' a = n := (s.sm a (by rw [h]; exact fun z => by cases z)).trans hl
theorem St.tk (s : St L lb lb' H H') : Tk H H' := fun a u t h => s.kp a u h (by rw [s.ok0.nt a u t h]; exact s.z)
end
/-- new addresses get labels by g -/
def relab (lb : Addr → Nat) (H : Hp) (g : Addr → Nat) : Addr → Nat := fun a => if (H a).isNone = true then g a else lb a
theorem relab_old {lb g : Addr → Nat} {H : Hp} {a : Addr} (h : H a ≠ none) : relab lb H g a = lb a := by
  unfold relab
  cases z : H a with
  | none => exact absurd z h
  | some o => rfl
theorem relab_new {lb g : Addr → Nat} {H : Hp} {a : Addr} (h : H a = none) : relab lb H g a = g a := by
  unfold relab
  rw [h]
  rfl
theorem St.relab {lb g : Addr → Nat} {H H' : Hp} (ok : Lb H lb) (e : Ex H H') (nt : ∀ a, H a = none → g a ≠ 0 → ∃ o, H' a = some o ∧ ¬ IsT o) : St [] lb (MW.relab lb H g) H H' :=
  .new ok e (fun _ h => relab_old h) fun a h q => nt a h (by rw [relab_new h] at q; exact q)
/-- what the labels say: one label must differ from another -/
theorem ne_lab {lb : Addr → Nat} {a b : Addr} {m n : Nat} (h1 : lb a = m) (h2 : lb b = n) (h : m ≠ n) : a ≠ b := fun e => h (by rw [← h1, ← h2, e])
/-! ### the asker in the heap -/
structure AD where
  dx : Addr
  g : Addr
  d : Addr
  r : Addr
  n : Addr
  t : Addr
  aS : Addr
  aE : Addr
  aR : Addr
  q : Addr
  vm : V
  vsh : V
  vse : V
  nr : Nat
def LQ (H : Hp) (lb : Addr → Nat) (v : V) (w : List Nat) : Prop := ∃ a, v = .ref a ∧ H a = some (.lst (nvs w)) ∧ lb a = 20
def SeAt (c : Cs) (H : Hp) (lb : Addr → Nat) (v : V) (x : Mai.Srch) : Prop := ∃ (a h pa : Addr) (wv : V), v = .ref a ∧ H a = some (.tup [.ref h, .ref pa, nv x.o, wv]) ∧ HalvAt c H h x.low x.high ∧ lb h = 11 ∧ WsAt H pa x.places ∧ lb pa = 12 ∧ TW H wv x.word
structure AskB (c : Cs) (par : Mai.Par) (H : Hp) (lb : Addr → Nat) (A : AD) (ws S E : List (List Nat)) (c2 c3 : Nat) : Prop where
  kn : KnAt H A.d ws par.out
  ld : lb A.d = 3
  rp : ∃ us, H A.r = some (.lst us) ∧ us.length = A.nr
  lr : lb A.r = 4
  ct : H A.n = some (.lst [nv ws.length, nv (ws.map List.length).sum, nv c2, nv c3])
  ln : lb A.n = 5
  tb : TabAt c H A.t A.aS A.aE A.aR par.k S E
  lt : lb A.t = 6
  lS : lb A.aS = 7
  lE : lb A.aE = 8
  lR : lb A.aR = 9
def VM (H : Hp) (v : V) : Option Mai.Mach → Prop
  | none => v = .non
  | some m => MF H v m
def VS (H : Hp) (v : V) : Option (List Nat) → Prop
  | none => v = .non
  | some w => TW H v w
def VE (c : Cs) (H : Hp) (lb : Addr → Nat) (v : V) : Option Mai.Srch → Prop
  | none => v = .non
  | some x => SeAt c H lb v x
abbrev vals (par : Mai.Par) (A : AD) (rest : List V) : List V := nv par.k :: nv par.o :: nv par.most :: .ref A.g :: .ref A.d :: .ref A.r :: .ref A.n :: .ref A.t :: A.vm :: A.vsh :: A.vse :: .ref A.q :: rest
structure AskAt (c : Cs) (par : Mai.Par) (H : Hp) (lb : Addr → Nat) (p : Addr) (A : AD) (s : Mai.AS) (rest : List V) : Prop where
  ob : H p = some (.ins c.Asker A.dx (fl_Asker.zip (vals par A rest)))
  lp : lb p = 1
  b : AskB c par H lb A s.ws s.S s.E s.c2 s.c3
  vm : VM H A.vm s.mach
  vsh : VS H A.vsh s.shown
  vse : VE c H lb A.vse s.srch
  qu : ∃ us, H A.q = some (.lst us) ∧ Als (LQ H lb) us s.q.reverse
  lq : lb A.q = 10
def SvAt (H : Hp) (lb : Addr → Nat) (v : V) : Mai.Stp → Prop
  | .ask w => ∃ a x, v = .ref a ∧ H a = some (.tup [.str "ask", x]) ∧ LQ H lb x w
  | .propose m => ∃ a x, v = .ref a ∧ H a = some (.tup [.str "propose", x]) ∧ MA H x m
  | .full => ∃ a, v = .ref a ∧ H a = some (.tup [.str "full"])
  | .done m => ∃ a x, v = .ref a ∧ H a = some (.tup [.str "done", x]) ∧ MA H x m
def SvO (H : Hp) (lb : Addr → Nat) (v : V) : Option Mai.Stp → Prop
  | none => v = .non
  | some x => SvAt H lb v x
section
variable {c : Cs} {par : Mai.Par} {L : List Nat} {lb lb' : Addr → Nat} {H H' : Hp} {A : AD} {v : V} {ws S E : List (List Nat)} {c2 c3 : Nat}
theorem LQ.keep {w : List Nat} (h : LQ H lb v w) (s : St L lb lb' H H') (n : 20 ∉ L := by decide) : LQ H' lb' v w := let ⟨a, e, h1, h2⟩ := h; ⟨a, e, s.at h1 h2 n, s.lab h1 h2⟩
theorem HalvAt.keep {h : Addr} {lo hi : Nat} (x : HalvAt c H h lo hi) (hl : lb h = 11) (s : St L lb lb' H H') (n : 11 ∉ L := by decide) : HalvAt c H' h lo hi := let ⟨dx, e⟩ := x; ⟨dx, s.at e hl n⟩
theorem SeAt.keep {x : Mai.Srch} (h : SeAt c H lb v x) (s : St L lb lb' H H') (n1 : 11 ∉ L := by decide) (n2 : 12 ∉ L := by decide) : SeAt c H' lb' v x := by
  obtain ⟨a, h, pa, wv, e, h1, h2, h3, h4, h5, h6⟩ := h
  obtain ⟨vs, h7, h8⟩ := h4
  obtain ⟨dx, h9⟩ := id h2
  exact ⟨a, h, pa, wv, e, s.tk.at h1, h2.keep h3 s n1, s.lab h9 h3, ⟨vs, s.at h7 h5 n2, h8.mono fun _ _ _ q => q.keep s.tk⟩, s.lab h7 h5, h6.keep s.tk⟩
theorem VE.keep {x : Option Mai.Srch} (h : VE c H lb v x) (s : St L lb lb' H H') (n1 : 11 ∉ L := by decide) (n2 : 12 ∉ L := by decide) : VE c H' lb' v x := by
  cases x with
  | none => exact h
  | some x => exact SeAt.keep h s n1 n2
theorem VM.keep {x : Option Mai.Mach} (h : VM H v x) (t : Tk H H') : VM H' v x := by
  cases x with
  | none => exact h
  | some x => exact MF.keep h t
theorem VS.keep {x : Option (List Nat)} (h : VS H v x) (t : Tk H H') : VS H' v x := by
  cases x with
  | none => exact h
  | some x => exact TW.keep h t
theorem tab_keep {t aS aE aR : Addr} {k : Nat} (h : TabAt c H t aS aE aR k S E) (l1 : lb t = 6) (l2 : lb aS = 7) (l3 : lb aE = 8) (l4 : lb aR = 9) (s : St L lb lb' H H') (n1 : 6 ∉ L := by decide) (n2 : 7 ∉ L := by decide) (n3 : 8 ∉ L := by decide) (n4 : 9 ∉ L := by decide) :
    TabAt c H' t aS aE aR k S E := by
  obtain ⟨⟨dx, h1⟩, ⟨v1, h2, g2⟩, ⟨v2, h3, g3⟩, ⟨v3, h4, g4⟩, h5, h6⟩ := h
  exact ⟨⟨dx, s.at h1 l1 n1⟩, ⟨v1, s.at h2 l2 n2, g2.mono fun _ _ _ q => q.keep s.tk⟩, ⟨v2, s.at h3 l3 n3, g3.mono fun _ _ _ q => q.keep s.tk⟩, ⟨v3, s.at h4 l4 n4, g4.mono fun _ _ _ q => q.keep s.tk⟩, h5, h6⟩
theorem tab_lab {t aS aE aR : Addr} {k : Nat} (h : TabAt c H t aS aE aR k S E) (l1 : lb t = 6) (l2 : lb aS = 7) (l3 : lb aE = 8) (l4 : lb aR = 9) (s : St L lb lb' H H') : lb' t = 6 ∧ lb' aS = 7 ∧ lb' aE = 8 ∧ lb' aR = 9 := by
  obtain ⟨⟨dx, h1⟩, ⟨v1, h2, g2⟩, ⟨v2, h3, g3⟩, ⟨v3, h4, g4⟩, h5, h6⟩ := h
  exact ⟨s.lab h1 l1, s.lab h2 l2, s.lab h3 l3, s.lab h4 l4⟩
/-- nothing of the base part is touched -/
theorem AskB.keep (b : AskB c par H lb A ws S E c2 c3) (s : St L lb lb' H H') (n : ∀ k ∈ [3, 4, 5, 6, 7, 8, 9], k ∉ L := by decide) : AskB c par H' lb' A ws S E c2 c3 := by
  obtain ⟨us, hr, hul⟩ := b.rp
  obtain ⟨l1, l2, l3, l4⟩ := tab_lab b.tb b.lt b.lS b.lE b.lR s
  exact ⟨s.at b.kn b.ld (n 3 (by decide)), s.lab b.kn b.ld, ⟨us, s.at hr b.lr (n 4 (by decide)), hul⟩, s.lab hr b.lr, s.at b.ct b.ln (n 5 (by decide)), s.lab b.ct b.ln,
    tab_keep b.tb b.lt b.lS b.lE b.lR s (n 6 (by decide)) (n 7 (by decide)) (n 8 (by decide)) (n 9 (by decide)), l1, l2, l3, l4⟩
theorem qu_keep {q : Addr} {qs : List (List Nat)} (h : ∃ us, H q = some (.lst us) ∧ Als (LQ H lb) us qs) (lq : lb q = 10) (s : St L lb lb' H H') (n1 : 10 ∉ L := by decide) (n2 : 20 ∉ L := by decide) : (∃ us, H' q = some (.lst us) ∧ Als (LQ H' lb') us qs) ∧ lb' q = 10 := by
  obtain ⟨us, h1, h2⟩ := h
  exact ⟨⟨us, s.at h1 lq n1, h2.mono fun _ _ _ z => z.keep s n2⟩, s.lab h1 lq⟩
theorem SvAt.keep {x : Mai.Stp} (h : SvAt H lb v x) (s : St L lb lb' H H') (n : 20 ∉ L := by decide) : SvAt H' lb' v x := by
  cases x with
  | ask w => obtain ⟨a, x, e, h1, h2⟩ := h; exact ⟨a, x, e, s.tk.at h1, h2.keep s n⟩
  | propose m => obtain ⟨a, x, e, h1, h2⟩ := h; exact ⟨a, x, e, s.tk.at h1, h2.keep s.tk⟩
  | full => obtain ⟨a, e, h1⟩ := h; exact ⟨a, e, s.tk.at h1⟩
  | done m => obtain ⟨a, x, e, h1, h2⟩ := h; exact ⟨a, x, e, s.tk.at h1, h2.keep s.tk⟩
theorem AskAt.keep {p : Addr} {s : Mai.AS} {rest : List V} (a : AskAt c par H lb p A s rest) (t : St [] lb lb' H H') : AskAt c par H' lb' p A s rest := by
  obtain ⟨h1, h2⟩ := qu_keep a.qu a.lq t
  exact ⟨t.at a.ob a.lp, t.lab a.ob a.lp, a.b.keep t, a.vm.keep t.tk, a.vsh.keep t.tk, a.vse.keep t, h1, h2⟩
end
abbrev LL : List Nat := [1, 2, 3, 4, 5, 6, 7, 8, 9, 10, 11, 12, 20]
/-! ### promises of the asker's inner defs -/
def sp_Asker__path (P : Program) (w : World) (K : PySem.W.Frag) (c : Cs) : Sp := fun vs H Q _ => ∃ (p dx : Addr) (st : Nat) (wv mv : V) (fs : List V) (m : Mai.Mach) (wd : List Nat), vs = [.ref p, nv st, wv] ∧ H p = some (.ins c.Asker dx (fl_Asker.zip fs)) ∧ fs[8]? = some mv ∧ MF H mv m ∧ m.WF ∧ st < m.n ∧ TW H wv wd ∧ Mai.okw m.k wd ∧ wd.length ≤ 300 ∧
  ∀ r H', Ex H H' → H r = none → H' r = some (.lst (nvs (Mai.path m st wd))) → Q (.ref r) H'
def sp_Asker__begin (P : Program) (w : World) (K : PySem.W.Frag) (c : Cs) : Sp := fun vs H Q _ => ∃ (p : Addr) (i : Nat) (wv : V) (par : Mai.Par) (lb : Addr → Nat) (A : AD) (s : Mai.AS) (rest : List V) (m : Mai.Mach) (wd : List Nat), vs = [.ref p, nv i, wv] ∧ Lb H lb ∧ AskAt c par H lb p A s rest ∧ Sz par.k s.S s.E ∧ s.mach = some m ∧ m.WF ∧ m.n = s.S.length ∧ m.k = par.k ∧ i < m.n ∧ TW H wv wd ∧ Mai.okw m.k wd ∧ wd.length ≤ 300 ∧ 1 ≤ wd.length ∧
  ∀ H' lb' A', St LL lb lb' H H' → AskAt c par H' lb' p A' { s with srch := some (Mai.begin_ m s.S i wd) } rest → A'.nr = A.nr → Q .non H'
def AskOut (c : Cs) (par : Mai.Par) (H : Hp) (lb : Addr → Nat) (p : Addr) (A : AD) (rest : List V) (r : Mai.AS × Option Mai.Stp) (Q : VK) : Prop :=
  ∀ v H' lb' A', St LL lb lb' H H' → AskAt c par H' lb' p A' r.1 rest → A'.nr = A.nr → SvO H' lb' v r.2 → Q v H'
def sp_Asker__fill (P : Program) (w : World) (K : PySem.W.Frag) (c : Cs) : Sp := fun vs H Q _ => ∃ (p : Addr) (par : Mai.Par) (lb : Addr → Nat) (A : AD) (s : Mai.AS) (rest : List V), vs = [.ref p] ∧ Lb H lb ∧ AskAt c par H lb p A s rest ∧ Mai.Pre par s ∧ (1 ≤ par.k ∧ par.k ≤ 4 ∧ 1 ≤ par.o ∧ par.o ≤ 6 ∧ par.most ≤ 30 ∧ ∀ w, Mai.okw par.k w → par.out w < par.o) ∧ s.srch = none ∧ s.shown = none ∧ s.S.length ≤ par.most ∧ AskOut c par H lb p A rest (Mai.fillP par s) Q
def sp_Asker__judge (P : Program) (w : World) (K : PySem.W.Frag) (c : Cs) : Sp := fun vs H Q _ => ∃ (p : Addr) (par : Mai.Par) (lb : Addr → Nat) (A : AD) (s : Mai.AS) (rest : List V) (m : Mai.Mach) (wd : List Nat), vs = [.ref p] ∧ Lb H lb ∧ AskAt c par H lb p A s rest ∧ Sz par.k s.S s.E ∧ (∃ r, s.S = [] :: r) ∧ s.mach = some m ∧ m.WF ∧ m.n = s.S.length ∧ m.k = par.k ∧ s.srch = none ∧ s.shown = some wd ∧ m.out 0 wd ≠ par.out wd ∧ Mai.okw par.k wd ∧ wd.length ≤ 300 ∧ 1 ≤ wd.length ∧ AskOut c par H lb p A rest (Mai.judgeP s m wd) Q
def sp_Asker__look (P : Program) (w : World) (K : PySem.W.Frag) (c : Cs) : Sp := fun vs H Q _ => ∃ (p : Addr) (par : Mai.Par) (lb : Addr → Nat) (A : AD) (s : Mai.AS) (rest : List V) (x : Mai.Srch), vs = [.ref p] ∧ Lb H lb ∧ AskAt c par H lb p A s rest ∧ Sz par.k s.S s.E ∧ s.srch = some x ∧ x.low < x.high ∧ x.high ≤ x.word.length ∧ x.places.length = x.word.length + 1 ∧ x.word.length ≤ 300 ∧ (∀ p ∈ x.places, p.length ≤ 400) ∧ (x.high - x.low = 1 → x.word.drop (x.low + 1) ∉ s.E) ∧ AskOut c par H lb p A rest (Mai.lookP par s x) Q
/-- a proposal counts one -/
def isP : Mai.Stp → Nat
  | .propose _ => 1
  | _ => 0
def isO : Option Mai.Stp → Nat
  | some x => isP x
  | none => 0
def sp_Asker__next_step (P : Program) (w : World) (K : PySem.W.Frag) (c : Cs) : Sp := fun vs H Q _ => ∃ (p : Addr) (par : Mai.Par) (sec : Mai.Mach) (lb : Addr → Nat) (A : AD) (s : Mai.AS) (rest : List V) (n : Nat), vs = [.ref p] ∧ Lb H lb ∧ AskAt c par H lb p A s rest ∧ Mai.Ctx par sec ∧ Mai.W par sec.least.n n s ∧
  ∀ v H' lb' A' s' x, St LL lb lb' H H' → AskAt c par H' lb' p A' s' rest → A'.nr = A.nr → SvAt H' lb' v x → Mai.R par sec.least.n s' x → s'.ws = s.ws → (s'.c3 = s.c3 ∧ s'.c2 = s.c2 + isP x) → Q v H'
end MW
/-! ## P4 -/
namespace MW
open PySem PySem.Spec PyProof.Rows L2 Evl
section
variable {P : Program} {w : World} {K : PySem.W.Frag} {mg : Str → Option Value} {base : Heap} {c : Cs}
theorem path_eq (M : Mai.Mach) (s : Nat) (w : List Nat) : Mai.path M s w = (List.range (w.length + 1)).map fun j => M.run s (w.take j) := by
  apply List.ext_getElem?
  intro i
  by_cases c : i < w.length + 1
  · rw [getD_some (by rw [Mai.path_length]; exact c), Mai.path_at M w s i (by omega), List.getElem?_map, List.getElem?_range c]
    rfl
  · rw [List.getElem?_eq_none (by rw [Mai.path_length]; omega), List.getElem?_eq_none (by simp; omega)]
theorem run_lt {m : Mai.Mach} (wf : m.WF) {s : Nat} (hs : s < m.n) {w : List Nat} (h : Mai.okw m.k w) (j : Nat) : m.run s (w.take j) < m.n := wf.run hs fun a ha => h a (List.mem_of_mem_take ha)
theorem ok_Asker__path {f : Addr} {fd : FuncData} (T : Tx K mg c)  (F : FnP K "_path" "Asker._path" s_Asker__path f fd) : FnOk P w K mg base CX0 1 f fd p_Asker__path (sp_Asker__path P w K c) := by
  refine F.ok sc_Asker__path (fun vs H Q E h => by obtain ⟨_, _, _, _, _, _, _, _, rfl, _⟩ := h; rfl) (fun cdv A outer s H vs Q E hr h => ?_)
  refine ⟨_, PSs.nox (pss_cons (ps_set (i := 3) sc_Asker__path.nd rfl (Or.inl rfl) (pe_lst (pa_cons (pv 1) pa_nil)))
     (pss_cons (ps_for PassesOwn.never rfl (pi_tup (pv 2)) (pg_name (i := 4) sc_Asker__path.nd rfl (Or.inl rfl))
     (pss_one (ps_expr (pe_bm PySem.F.plainAttrs_list PySem.F.slot_list_append PySem.F.type_list_append mt_append (pv 3) (pa_cons (pe_ix ix_tup (pe_ix ix_tup (pe_ix ix_tup (pe_fld (pv 0) rfl) pe_int (fun _ _ => rfl)) (pe_ix ix_list (pv 3) (pe_un un_neg pe_int) (fun _ _ => rfl)) (fun _ _ => rfl)) (pv 4) (fun _ _ => rfl)) pa_nil)))))
     (pss_one (ps_ret (pv 3))))), ?_⟩
  obtain ⟨p, dx, st, wv, mv, fs, m, wd, rfl, hp, hfs, hM, wf, hst, ⟨aw, rfl, haw⟩, hok, hlen, kq⟩ := h
  obtain ⟨ma, mb, md, rs, rfl, hma, hmb, hmr, hmd⟩ := id hM
  refine ⟨_, rfl, sz1, fun r0 hr0 => ?_⟩
  have e1 : Ex H (upd H r0 (.lst [nv st])) := Ex.new hr0
  refine ⟨_, rfl, aw, rfl, ⟨_, SqT.of (e1 aw _ haw)⟩, for_tup (xs := nvs wd) (fun i σ H2 => ∃ (s4 : Option V), σ = [some (V.ref p), some (nv st), some (V.ref aw), some (V.ref r0), s4] ∧ Ex H H2 ∧ H2 r0 = some (.lst (nvs ((List.range (i + 1)).map fun j => m.run st (wd.take j)))))
    ⟨_, rfl, e1, upd_same⟩ (fun i σ H2 _ ⟨_, _, e, _⟩ => SqT.of (e aw _ haw)) ?_ ?_⟩
  · rintro i x σ H2 hx ⟨s4, rfl, e2, hr2⟩
    obtain ⟨a, ha, rfl⟩ := nvs_of hx
    have hil := (List.getElem?_eq_some_iff.mp ha).1
    have hak : a < m.k := hok a (List.mem_of_getElem? ha)
    have hlt := run_lt wf hst hok i
    obtain ⟨g1, g2⟩ := step_get wf hlt hak
    obtain ⟨x2, hx2, a2, rfl, ha2⟩ := hmr.get (row_get wf hlt)
    have hlast : atI (nvs ((List.range (i + 1)).map fun j => m.run st (wd.take j))) (-1) = some (nv (m.run st (wd.take i))) := by
      rw [range_map_snoc, nvs_app]
      exact atI_last _ _
    refine ⟨_, rfl, .inl ⟨rfl, _, SqL.of hr2⟩, _, rfl, fget T.fA (i := 8) (e2 p _ hp) rfl hfs ⟨ma, _, _, _, rfl, rfl, SqT.of (e2 ma _ hma), at_nat (j := 2) rfl rfl, _, rfl, _, rfl, r0, _, _, _, rfl, rfl, SqL.of hr2, hlast, mb, _, _, _, rfl, rfl, SqT.of (e2 mb _ hmb), at_nat rfl hx2, _, rfl, a2, _, _, _, rfl, rfl, SqT.of (e2 a2 _ ha2), at_nat rfl (nvs_get g1), r0, _, _, rfl, rfl, hr2, ?_, _, rfl, Ex.mut e2 hr0, ?_⟩⟩
    · rw [nvs_len, List.length_map, List.length_range]
      exact szl (by omega)
    · rw [upd_same, range_map_snoc _ (i + 1), nvs_app, run_take m st ha]
      rfl
  · rintro σ H2 ⟨s4, rfl, e2, hr2⟩
    rw [nvs_len] at hr2
    exact ⟨_, rfl, kq r0 H2 e2 hr0 (by rw [path_eq]; exact hr2)⟩

theorem AskB.cg {c : Cs} {par : Mai.Par} {H : Hp} {lb : Addr → Nat} {A : AD} {ws S E : List (List Nat)} {c2 c3 : Nat} (b : AskB c par H lb A ws S E c2 c3) {x y z : V} {q : Addr} : AskB c par H lb { A with vm := x, vsh := y, vse := z, q := q } ws S E c2 c3 :=
  ⟨b.kn, b.ld, b.rp, b.lr, b.ct, b.ln, b.tb, b.lt, b.lS, b.lE, b.lR⟩
theorem LLz : 0 ∉ LL := by decide
/-- the asker's own object, put anew -/
theorem ask_put {c : Cs} {H : Hp} {p : Addr} {dx : Addr} {vs : List V} {f : Str} {v : V} {i : Nat} (h1 : fl_Asker[i]? = some f) (h2 : i < vs.length) :
    upd H p (.ins c.Asker dx (putF f v (fl_Asker.zip vs))) p = some (.ins c.Asker dx (fl_Asker.zip (vs.set i v))) := by rw [upd_same, zip_put nd_Asker h1 h2]
theorem ok_Asker__begin {f : Addr} {fd : FuncData} (T : Tx K mg c) (D_Asker__path : Mtd P w K mg base CX0 1 c.Asker "_path" p_Asker__path (sp_Asker__path P w K c)) (D_Table_state_words : Mtd P w K mg base CX0 1 c.Table "state_words" p_Table_state_words (sp_Table_state_words P w K c)) (D_Halving_init : Mkd P w K mg base CX0 1 "Halving" c.Halving p_Halving_init (sp_Halving_init P w K c)) (F : FnP K "_begin" "Asker._begin" s_Asker__begin f fd) : FnOk P w K mg base CX0 3 f fd p_Asker__begin (sp_Asker__begin P w K c) := by
  refine F.ok sc_Asker__begin (fun vs H Q E h => by obtain ⟨_, _, _, _, _, _, _, _, _, _, rfl, _⟩ := h; rfl) (fun cdv A outer s H vs Q E hr h => ?_)
  refine ⟨_, PSs.nox (pss_cons (ps_set (i := 3) sc_Asker__begin.nd rfl (Or.inr rfl) (pe_m (pv 0) T.k_Asker D_Asker__path (hr.mono (by decide)) (pa_cons (pv 1) (pa_cons (pv 2) pa_nil))))
     (pss_cons (ps_set (i := 4) sc_Asker__begin.nd rfl (Or.inr rfl) (pe_lc (own := [("one", 6)]) (te := (tCB (rTupOf K) (tCons (tVar 6) tNil))) (by rfl) sc_Asker__begin.nd (pi_list (pe_m0 (pe_fld (pv 0) rfl) T.k_Table D_Table_state_words (hr.mono (by decide)))) (blkOk_by (N := N_Asker__begin) (sc := (defScope s_Asker__begin)) (by decide +kernel)) (fun _ _ _ _ _ => (pg_name (i := 6) sc_Asker__begin.nd rfl (Or.inl rfl))) (fun _ _ _ _ _ => pts_nil) (fun _ _ _ _ _ => (pe_callTy call_tuple_of (by rfl) T.b_tuple (by decide +kernel) (pa_cons (pv 6) pa_nil)))))
     (pss_cons (ps_setLc (i := 5) (own := [("at", 7)]) (te := (tOp (rCatA K) (tOp (rIxL K) (tVar 4) (tOp (rIxL K) (tVar 3) (tVar 7))) (tSl (rSlA K) (tVar 2) (tPart (tVar 7)) tNoPart))) rfl sc_Asker__begin.nd rfl rfl (sw_true rfl rfl rfl (by decide +kernel)) (pi_range1 (by rfl) T.b_range (pa_cons (pe_op op_add (pe_callB call_len_seq (by rfl) T.b_len PySem.boot_len (pa_cons (pv 2) pa_nil)) pe_int) pa_nil)) (blkOk_by (N := N_Asker__begin) (sc := (defScope s_Asker__begin)) (by decide +kernel)) (fun _ _ _ _ _ => (pg_name (i := 7) sc_Asker__begin.nd rfl (Or.inl rfl))) (fun _ _ _ _ _ => pts_nil) (fun _ _ _ _ _ => (pe_op op_catA (pe_ix ix_list (pv 4) (pe_ix ix_list (pv 3) (pv 7) (fun _ _ => rfl)) (fun _ _ => rfl)) (pe_slice sl_tupA (pv 2) (po_some (pv 7)) po_none))))
     (pss_one (ps_fld (pv 0) (pe_tup (pa_cons (pe_mk D_Halving_init (hr.mono (by decide)) (pa_cons (pe_callB call_len_seq (by rfl) T.b_len PySem.boot_len (pa_cons (pv 2) pa_nil)) pa_nil)) (pa_cons (pv 5) (pa_cons (pe_ix ix_tup (pe_ix ix_tup (pe_fld (pv 0) rfl) pe_int (fun _ _ => rfl)) (pe_ix ix_list (pv 3) (pe_un un_neg pe_int) (fun _ _ => rfl)) (fun _ _ => rfl)) (pa_cons (pv 2) pa_nil))))) rfl))))), ?_⟩
  obtain ⟨p, i, wv, par, lb, A', s, rest, m, wd, rfl, lbo, aa, sz, hmach, wf, hmn, hmk, hi, htw, hok, hlen, hpos, kq⟩ := h
  obtain ⟨aw, rfl, haw⟩ := id htw
  have hMF : MF H A'.vm m := by have := aa.vm; rw [hmach] at this; exact this
  have hSl := sz.Sl
  refine ⟨_, rfl, p, A'.dx, _, rfl, aa.ob, zip_none (by decide +kernel), _, rfl, _, rfl, p, A'.dx, i, _, A'.vm, _, m, wd, rfl, aa.ob, rfl, hMF, wf, hi, htw, hok, hlen, fun rp H1 e1 hrp0 hrp => ?_⟩
  refine ⟨_, rfl, fget T.fA (i := 7) (e1 p _ aa.ob) rfl rfl ?_⟩
  obtain ⟨⟨tdx, htb⟩, _⟩ := id aa.b.tb
  refine ⟨A'.t, tdx, _, rfl, e1 _ _ htb, zip_none (by decide +kernel), A'.t, A'.aS, A'.aE, A'.aR, par.k, s.S, s.E, rfl, aa.b.tb.ex e1, sz, fun H2 r us e2 hr0 hr2 als2 => ?_⟩
  have e02 := e1.trans e2
  refine ⟨r, rfl, ⟨_, SqL.of hr2⟩, fun D hD => lc_w hD (walk_list.mono (fun H3 e => SqL.of (e r _ hr2)) fun _ _ _ _ _ _ y => y) (fun _ => rfl) (fun j v H3 => ∀ x, s.S[j]? = some x → TW H3 v x) (fun _ _ _ _ _ h hD _ => fun x hx => tw_upd (h x hx) hD) (fun _ _ _ _ h e => fun x hx => (h x hx).keep (tk_ex e)) ?_ (by rw [als2.len]; omega) ?_⟩
  · rintro j x H3 H3' hj e3 ⟨accD, hDD⟩ ⟨rfl, hx⟩ Q' kk
    obtain ⟨y, hy, al, rfl, hal⟩ := als2.of hx
    refine ⟨_, rfl, al, _, rfl, .inl ⟨SqL.of (e3 al _ hal), fun l hl => kk _ _ (Ex.new hl) (by intro z; cases z; rw [hDD] at hl; cases hl) fun y' hy' => ?_⟩⟩
    rw [hy] at hy'
    cases hy'
    exact ⟨l, rfl, upd_same⟩
  intro H3 accw e3 haccw halw hapw
  have e03 := e02.trans e3
  have alsw : Als (TW H3) accw s.S := ⟨by rw [halw, als2.len], fun j v x h1 h2 => hapw j v h1 x h2⟩
  have hrp3 := (e2.trans e3) rp _ hrp
  have hpl : (Mai.path m i wd).length = wd.length + 1 := Mai.path_length m wd i
  refine ⟨_, rfl, aw, _, rfl, .inr (SqT.of (e03 aw _ haw)), _, _, rfl, rfl, _, rfl, by rw [nvs_len]; omega, by rw [nvs_len]; omega, fun D2 hD2 => lc_w hD2 (walk_range.mono (fun _ _ => True.intro) fun _ _ _ _ _ _ y => y) (fun _ => rfl) (fun j v H4 => TW H4 v (s.S.getD ((Mai.path m i wd).getD j 0) [] ++ wd.drop j)) (fun _ _ _ _ _ h hD _ => tw_upd h hD) (fun _ _ _ _ h e => h.keep (tk_ex e)) ?_ (by rw [nvs_len]; omega) ?_⟩
  · rintro j x H4 H4' hj e4 ⟨accD, hDD⟩ ⟨rfl, rfl⟩ Q' kk
    have hj' : j < wd.length + 1 := by rw [nvs_len] at hj; omega
    have hpj : (Mai.path m i wd)[j]? = some ((Mai.path m i wd).getD j 0) := getD_some (by omega)
    have hlt : (Mai.path m i wd).getD j 0 < s.S.length := by
      rw [Mai.path_at m wd i j (by omega), ← hmn]
      exact run_lt wf hi hok j
    obtain ⟨hm1, hm2⟩ := Mai.getD_mem (d := ([] : List Nat)) hlt
    obtain ⟨vv, hvv, ax, rfl, hax⟩ := alsw.get hm2
    have e04 := e03.trans e4
    have hxlen := (sz.Sw _ hm1).2
    refine ⟨_, rfl, _, rfl, _, rfl, rp, _, _, _, rfl, rfl, SqL.of (e4 rp _ hrp3), at_nat (by omega) (nvs_get hpj), D, _, _, _, rfl, rfl, SqL.of (e4 D _ haccw), at_nat rfl hvv, _, rfl, _, rfl, (0 : Int) + (j : Int), rfl, ?_⟩
    have ej : (0 : Int) + (j : Int) = (j : Int) := Int.zero_add _
    rw [ej]
    show rSlA K (V.ref aw) (some (j : Int)) none H4' fun y H2 => rCatA K (V.ref ax) y H2 Q'
    refine rdrop (w := wd) (i := j) (e04 aw _ haw) (by omega) fun q H5 e5 hq => ?_
    refine rcat (e5 ax _ (e4 ax _ hax)) hq (by rw [List.length_drop]; omega) fun q2 H6 e6 hq2 => ?_
    have hDH : ∃ a, H4' D2 = some (.lst a) := ⟨_, hDD⟩
    refine kk _ _ (e5.trans e6) (fun z => ?_) ⟨q2, rfl, hq2⟩
    cases z
    have := (e5.trans e6) D2 _ hDD
    rw [this] at hq2
    cases hq2
  intro H4 accp e4 haccp halp happ
  have e04 := e03.trans e4
  have hplaces : WsAt H4 D2 (Mai.places m s.S i wd) := by
    refine ⟨accp, haccp, ?_⟩
    unfold Mai.places
    refine Als.range (by rw [halp, nvs_len]; omega) fun j v hv => happ j v hv
  refine ⟨_, rfl, aw, _, rfl, .inr (SqT.of (e04 aw _ haw)), fun x dx nx ndx nex => ?_⟩
  have e5 : Ex H4 (upd (upd H4 dx (.own x)) x (.ins c.Halving dx [])) := (Ex.new ndx).trans (Ex.new (by rw [upd_ne nex.symm]; exact nx))
  refine ⟨x, dx, wd.length, by rw [nvs_len]; rfl, upd_same, hpos, fun H6 hv but => ⟨rfl, ?_⟩⟩
  have e6 : Ex H4 H6 := fun a o ha => but a o (ne_of_none ha nx) (e5 a o ha)
  have e06 := e04.trans e6
  have hMF6 := hMF.keep (tk_ex e06)
  obtain ⟨ma, mb, md, rs, hvm, hma, hmb, hmr, hmd⟩ := id hMF6
  have hrun : m.run i wd < m.n := wf.run hi hok
  have hlast : atI (nvs (Mai.path m i wd)) (-1) = some (nv (m.run i wd)) := by
    rw [path_eq, range_map_snoc, nvs_app, List.take_length]
    exact atI_last _ _
  refine ⟨_, rfl, _, rfl, fget T.fA (i := 8) (e06 p _ aa.ob) rfl rfl ⟨ma, _, _, _, hvm, rfl, SqT.of hma, at_nat (j := 3) rfl rfl, _, rfl, _, rfl, rp, _, _, _, rfl, rfl, SqL.of ((e4.trans e6) rp _ hrp3), hlast, md, _, _, _, rfl, rfl, sqT_rd hmd.rd, at_nat rfl (nvs_get (at_get hrun)), _, rfl, sz4, fun tp htp => ⟨_, rfl, fput T.fA (i := 10) ((Ex.new htp) p _ (e06 p _ aa.ob)) rfl ?_⟩⟩⟩
  have e7 : Ex H6 (upd H6 tp (.tup [.ref x, .ref D2, nv (m.at_ (m.run i wd)), .ref aw])) := Ex.new htp
  have htp' : upd H6 tp (.tup [.ref x, .ref D2, nv (m.at_ (m.run i wd)), .ref aw]) tp = some (.tup [.ref x, .ref D2, nv (m.at_ (m.run i wd)), .ref aw]) := upd_same
  generalize upd H6 tp (.tup [.ref x, .ref D2, nv (m.at_ (m.run i wd)), .ref aw]) = H7 at *
  have e07 := e06.trans e7
  obtain ⟨hdx, hx7⟩ := id hv
  have hx7 := e7 x _ hx7
  have hD7 := (e6.trans e7) D2 _ haccp
  have nxD : x ≠ D2 := fun z => by rw [z] at nx; rw [haccp] at nx; cases nx
  have hx0 : H x = none := fresh_back e04 nx
  have hD0 : H D2 = none := fresh_back e03 hD2
  have st1 : St [] lb (relab lb H fun a => if a = x then 11 else if a = D2 then 12 else 0) H H7 := St.relab lbo e07 fun a _ hg => by
    by_cases c1 : a = x
    · rw [c1]; exact ⟨_, hx7, fun z => z⟩
    · rw [if_neg c1] at hg
      by_cases c2 : a = D2
      · rw [c2]; exact ⟨_, hD7, fun z => z⟩
      · rw [if_neg c2] at hg; exact absurd rfl hg
  have lx : relab lb H (fun a => if a = x then 11 else if a = D2 then 12 else 0) x = 11 := by rw [relab_new hx0, if_pos rfl]
  have lD : relab lb H (fun a => if a = x then 11 else if a = D2 then 12 else 0) D2 = 12 := by rw [relab_new hD0, if_neg nxD.symm, if_pos rfl]
  have aa1 := aa.keep st1
  generalize relab lb H (fun a => if a = x then 11 else if a = D2 then 12 else 0) = lb1 at *
  have st2 : St [1] lb1 lb1 H7 _ := St.upd (u := .ins c.Asker A'.dx (putF "_search" (.ref tp) (fl_Asker.zip (vals par A' rest)))) st1.ok aa1.ob aa1.lp (by decide) fun z => z
  obtain ⟨q1, q2⟩ := qu_keep aa1.qu aa1.lq st2
  refine kq _ lb1 { A' with vse := .ref tp } ((st1.trans st2).mono (by decide) LLz) ⟨?_, aa1.lp, (aa1.b.keep st2).cg, aa1.vm.keep st2.tk, aa1.vsh.keep st2.tk, ?_, q1, q2⟩ rfl
  · rw [ask_put (i := 10) rfl (by simp [vals])]
    rfl
  · exact ⟨tp, x, D2, .ref aw, rfl, st2.tk.at htp', HalvAt.keep ⟨hdx, hx7⟩ lx st2, lx, hplaces.keep ((tk_ex (e6.trans e7)).trans st2.tk) (by rw [st2.at hD7 lD, haccp]), lD, (htw.keep (tk_ex e07)).keep st2.tk⟩

/-- a new list that an ask shows -/
theorem ask_new {c : Cs} {par : Mai.Par} {H H1 : Hp} {lb : Addr → Nat} {p : Addr} {A : AD} {s : Mai.AS} {rest : List V} {wd : List Nat} {l t : Addr} (lbo : Lb H lb) (aa : AskAt c par H lb p A s rest) (e : Ex H H1) (hl : H l = none) (hl1 : H1 l = some (.lst (nvs wd))) (ht : H1 t = some (.tup [.str "ask", .ref l])) :
    ∃ lb', St LL lb lb' H H1 ∧ AskAt c par H1 lb' p A s rest ∧ SvAt H1 lb' (.ref t) (.ask wd) := by
  have st1 : St [] lb (relab lb H fun a => if a = l then 20 else 0) H H1 := St.relab lbo e fun a _ hg => by
    by_cases c1 : a = l
    · rw [c1]; exact ⟨_, hl1, fun z => z⟩
    · rw [if_neg c1] at hg; exact absurd rfl hg
  exact ⟨_, st1.mono (by simp) LLz, aa.keep st1, t, .ref l, rfl, ht, l, rfl, hl1, by rw [relab_new hl, if_pos rfl]⟩
theorem ok_Asker__judge {f : Addr} {fd : FuncData} (T : Tx K mg c) (D_Asker__path : Mtd P w K mg base CX0 1 c.Asker "_path" p_Asker__path (sp_Asker__path P w K c)) (D_Asker__begin : Mtd P w K mg base CX0 3 c.Asker "_begin" p_Asker__begin (sp_Asker__begin P w K c)) (F : FnP K "_judge" "Asker._judge" s_Asker__judge f fd) : FnOk P w K mg base CX0 4 f fd p_Asker__judge (sp_Asker__judge P w K c) := by
  refine F.ok sc_Asker__judge (fun vs H Q E h => by obtain ⟨_, _, _, _, _, _, _, _, rfl, _⟩ := h; rfl) (fun cdv A outer s H vs Q E hr h => ?_)
  refine ⟨_, PSs.nox (pss_cons (ps_set (i := 1) sc_Asker__judge.nd rfl (Or.inl rfl) (pe_fld (pv 0) rfl))
     (pss_cons (ps_if (pt_cmp (pc_dnotin (hu_of hr) (pv 1) (pe_fld (pv 0) rfl)))
     (pss_one (ps_ret (pe_tup (pa_cons pe_str (pa_cons (pe_callTy call_list_of (by rfl) T.b_list (by decide +kernel) (pa_cons (pv 1) pa_nil)) pa_nil)))))
     pss_nil)
     (pss_cons (ps_fld (pv 0) pe_non rfl)
     (pss_cons (ps_set (i := 2) sc_Asker__judge.nd rfl (Or.inl rfl) (pe_ix ix_list (pe_m (pv 0) T.k_Asker D_Asker__path (hr.mono (by decide)) (pa_cons pe_int (pa_cons (pv 1) pa_nil))) (pe_un un_neg pe_int) (fun _ _ => rfl)))
     (pss_cons (ps_if (pt_cmpR op_eq (pe_ix ix_tup (pe_ix ix_tup (pe_fld (pv 0) rfl) pe_int (fun _ _ => rfl)) (pv 2) (fun _ _ => rfl)) (pe_dget (hu_of hr) (pe_fld (pv 0) rfl) (pv 1) (fun _ _ => rfl)) (by rfl))
     (pss_one (ps_ret (pe_tup (pa_cons pe_str (pa_cons pe_str pa_nil)))))
     pss_nil)
     (pss_cons (ps_expr (pe_m (pv 0) T.k_Asker D_Asker__begin (hr.mono (by decide)) (pa_cons pe_int (pa_cons (pv 1) pa_nil))))
     (pss_one (ps_ret pe_non)))))))), ?_⟩
  obtain ⟨p, par, lb, A', s, rest, m, wd, rfl, lbo, aa, sz, hS0, hmach, wf, hmn, hmk, hse, hsh, hne, hok, hlen, hpos, kq⟩ := h
  have hTW : TW H A'.vsh wd := by have := aa.vsh; rw [hsh] at this; exact this
  obtain ⟨aw, hvw, haw⟩ := id hTW
  have hokm : Mai.okw m.k wd := by rw [hmk]; exact hok
  have hMF : MF H A'.vm m := by have := aa.vm; rw [hmach] at this; exact this
  refine ⟨_, rfl, fget T.fA (i := 9) aa.ob rfl rfl ⟨_, rfl, _, rfl, fget T.fA (i := 4) aa.ob rfl rfl ⟨A'.d, _, rfl, by rw [hvw]; exact kn_get aa.b.kn haw, _, rfl, ?_⟩⟩⟩
  by_cases cm : wd ∈ s.ws
  · refine iteN (by rw [if_pos cm]; rfl) ⟨_, rfl, fput T.fA (i := 9) aa.ob rfl ?_⟩
    have st1 : St [1] lb lb H _ := St.upd (u := .ins c.Asker A'.dx (putF "_shown" .non (fl_Asker.zip (vals par A' rest)))) lbo aa.ob aa.lp (by decide) fun z => z
    obtain ⟨q1, q2⟩ := qu_keep aa.qu aa.lq st1
    have aa1 : AskAt c par _ lb p { A' with vsh := .non } { s with shown := none } rest := ⟨by rw [ask_put (i := 9) rfl (by simp [vals])]; rfl, aa.lp, (aa.b.keep st1).cg, aa.vm.keep st1.tk, rfl, aa.vse.keep st1, q1, q2⟩
    have hTW1 := hTW.keep st1.tk
    have hMF1 := hMF.keep st1.tk
    generalize upd H p (.ins c.Asker A'.dx (putF "_shown" .non (fl_Asker.zip (vals par A' rest)))) = H1 at *
    refine ⟨_, rfl, p, A'.dx, _, rfl, aa1.ob, zip_none (by decide +kernel), _, rfl, p, A'.dx, 0, _, A'.vm, _, m, wd, rfl, aa1.ob, rfl, hMF1, wf, wf.n0, hTW1, hokm, hlen, fun rp H2 e2 hrp0 hrp => ?_⟩
    have hlast : atI (nvs (Mai.path m 0 wd)) (-1) = some (nv (m.run 0 wd)) := by
      rw [path_eq, range_map_snoc, nvs_app, List.take_length]
      exact atI_last _ _
    have hrun : m.run 0 wd < m.n := wf.run wf.n0 hokm
    have st2 : St [] lb lb H1 H2 := St.ex st1.ok e2
    have aa2 := aa1.keep st2
    obtain ⟨ma, mb, md, rs, hvm, hma, hmb, hmr, hmd⟩ := hMF1.keep (tk_ex e2)
    refine ⟨_, rfl, rp, _, _, _, rfl, rfl, SqL.of hrp, hlast, ?_⟩
    have hdg : DGet H2 A'.d A'.vsh (some (nv (par.out wd))) := by rw [hvw]; exact kn_some aa2.b.kn ((st1.trans st2).tk.at haw) cm
    refine ⟨_, rfl, fget T.fA (i := 8) aa2.ob rfl rfl ⟨ma, _, _, _, hvm, rfl, SqT.of hma, at_nat (j := 3) rfl rfl, _, rfl, md, _, _, _, rfl, rfl, sqT_rd hmd.rd, at_nat rfl (nvs_get (at_get hrun)), _, rfl, fget T.fA (i := 4) aa2.ob rfl rfl ⟨_, rfl, A'.d, _, rfl, hdg, rfl, _, rfl, iteN (d_f fun z => hne (nv_inj z)) ?_⟩⟩⟩
    refine ⟨_, rfl, p, A'.dx, _, rfl, aa2.ob, zip_none (by decide +kernel), _, rfl, p, 0, _, par, lb, { A' with vsh := .non }, { s with shown := none }, rest, m, wd, rfl, st2.ok, aa2, sz, hmach, wf, hmn, hmk, wf.n0, hTW1.keep (tk_ex e2), hokm, hlen, hpos, fun H3 lb3 A3 st3 aa3 hnr => ?_⟩
    refine kq .non H3 lb3 A3 (((st1.trans st2).trans st3).mono (by decide) LLz) ?_ hnr ?_
    · unfold Mai.judgeP
      rw [if_pos cm]
      exact aa3
    · unfold Mai.judgeP
      rw [if_pos cm]
      exact rfl
  · refine iteP (by rw [if_neg cm]; rfl) ⟨_, rfl, aw, _, by rw [hvw], .inr (SqT.of haw), fun l hl => ⟨sz2, fun t ht => ?_⟩⟩
    have nlt : l ≠ t := ne_of_none upd_same ht
    obtain ⟨lb', h1, h2, h3⟩ := ask_new (l := l) (t := t) (wd := wd) lbo aa ((Ex.new hl).trans (Ex.new ht)) hl (by rw [upd_ne nlt, upd_same]) upd_same
    refine kq _ _ lb' A' h1 ?_ rfl ?_
    · unfold Mai.judgeP
      rw [if_neg cm]
      exact h2
    · unfold Mai.judgeP
      rw [if_neg cm]
      exact h3

theorem rdropI {K : PySem.W.Frag} {H : Hp} {Q : VK} {a : Addr} {w : List Nat} {i : Nat} {z : Int} (e : z = (i : Int)) (ha : H a = some (.tup (nvs w))) (hi : i ≤ w.length) (k : ∀ q H', Ex H H' → H' q = some (.tup (nvs (w.drop i))) → Q (.ref q) H') : rSlA K (.ref a) (some z) none H Q := by
  rw [e]
  exact rdrop ha hi k
theorem ok_Asker__look {f : Addr} {fd : FuncData} (T : Tx K mg c) (D_Halving_place : Mtd P w K mg base CX0 1 c.Halving "place" p_Halving_place (sp_Halving_place P w K c)) (D_Table_add_column : Mtd P w K mg base CX0 1 c.Table "add_column" p_Table_add_column (sp_Table_add_column P w K c)) (D_Halving_found : Mtd P w K mg base CX0 2 c.Halving "found" p_Halving_found (sp_Halving_found P w K c)) (D_Halving_tell : Mtd P w K mg base CX0 2 c.Halving "tell" p_Halving_tell (sp_Halving_tell P w K c)) (F : FnP K "_look" "Asker._look" s_Asker__look f fd) : FnOk P w K mg base CX0 3 f fd p_Asker__look (sp_Asker__look P w K c) := by
  refine F.ok sc_Asker__look (fun vs H Q E h => by obtain ⟨_, _, _, _, _, _, _, rfl, _⟩ := h; rfl) (fun cdv A outer s H vs Q E hr h => ?_)
  refine ⟨_, PSs.nox (pss_cons (ps_asg (pe_fld (pv 0) rfl) (pg_tup (by rfl) (pgs_cons (pg_name (i := 1) sc_Asker__look.nd rfl (Or.inl rfl)) (pgs_cons (pg_name (i := 2) sc_Asker__look.nd rfl (Or.inl rfl)) (pgs_cons (pg_name (i := 3) sc_Asker__look.nd rfl (Or.inl rfl)) (pgs_cons (pg_name (i := 4) sc_Asker__look.nd rfl (Or.inl rfl)) pgs_nil))))))
     (pss_cons (ps_set (i := 5) sc_Asker__look.nd rfl (Or.inl rfl) (pe_m0 (pv 1) T.k_Halving D_Halving_place (hr.mono (by decide))))
     (pss_cons (ps_if (pt_cmpR op_isN (pv 5) pe_non (by rfl))
     (pss_cons (ps_fld (pv 0) pe_non rfl)
     (pss_cons (ps_expr (pe_m (pe_fld (pv 0) rfl) T.k_Table D_Table_add_column (hr.mono (by decide)) (pa_cons (pe_callTy call_list_of (by rfl) T.b_list (by decide +kernel) (pa_cons (pe_slice sl_tupA (pv 4) (po_some (pe_op op_add (pe_m0 (pv 1) T.k_Halving D_Halving_found (hr.mono (by decide))) pe_int)) po_none) pa_nil)) pa_nil)))
     (pss_one (ps_ret pe_non))))
     pss_nil)
     (pss_cons (ps_if (pt_cmp (pc_dnotin (hu_of hr) (pe_ix ix_list (pv 2) (pv 5) (fun _ _ => rfl)) (pe_fld (pv 0) rfl)))
     (pss_one (ps_ret (pe_tup (pa_cons pe_str (pa_cons (pe_callTy call_list_of (by rfl) T.b_list (by decide +kernel) (pa_cons (pe_ix ix_list (pv 2) (pv 5) (fun _ _ => rfl)) pa_nil)) pa_nil)))))
     pss_nil)
     (pss_cons (ps_expr (pe_m (pv 1) T.k_Halving D_Halving_tell (hr.mono (by decide)) (pa_cons (pe_cmpR op_ne (pe_dget (hu_of hr) (pe_fld (pv 0) rfl) (pe_ix ix_list (pv 2) (pv 5) (fun _ _ => rfl)) (fun _ _ => rfl)) (pv 3) (by rfl)) pa_nil)))
     (pss_one (ps_ret pe_non))))))), ?_⟩
  obtain ⟨p, par, lb, A', s, rest, x, rfl, lbo, aa, sz, hse, hlh, hhw, hpl, hwl, hplw, hnotE, kq⟩ := h
  have hSe : SeAt c H lb A'.vse x := by have := aa.vse; rw [hse] at this; exact this
  obtain ⟨ta, hv, pa, wv, hve, hta, hHv, hlv, hWs, hlp, hTW⟩ := id hSe
  obtain ⟨aw, rfl, haw⟩ := id hTW
  obtain ⟨hdx, hHo⟩ := id hHv
  refine ⟨_, rfl, fget T.fA (i := 10) aa.ob rfl rfl ⟨ta, _, hve, SqT.of hta, rfl, _, _, rfl, _, _, rfl, _, _, rfl, _, _, rfl, rfl, ?_⟩⟩
  refine ⟨_, rfl, hv, hdx, _, rfl, hHo, zip_none (by decide +kernel), hv, x.low, x.high, rfl, hHv, hlh, ?_⟩
  by_cases c1 : x.high - x.low = 1
  · rw [if_pos c1]
    refine ⟨_, rfl, rfl, _, rfl, iteP (d_t rfl) ⟨_, rfl, fput T.fA (i := 10) aa.ob rfl ?_⟩⟩
    have st1 : St [1] lb lb H _ := St.upd (u := .ins c.Asker A'.dx (putF "_search" .non (fl_Asker.zip (vals par A' rest)))) lbo aa.ob aa.lp (by decide) fun z => z
    obtain ⟨q1, q2⟩ := qu_keep aa.qu aa.lq st1
    have aa1 : AskAt c par _ lb p { A' with vse := .non } { s with srch := none } rest := ⟨by rw [ask_put (i := 10) rfl (by simp [vals])]; rfl, aa.lp, (aa.b.keep st1).cg, aa.vm.keep st1.tk, aa.vsh.keep st1.tk, rfl, q1, q2⟩
    have hHo1 := st1.at hHo hlv
    have haw1 := st1.tk.at haw
    generalize upd H p (.ins c.Asker A'.dx (putF "_search" .non (fl_Asker.zip (vals par A' rest)))) = H1 at *
    obtain ⟨⟨tdx, htb⟩, _⟩ := id aa1.b.tb
    refine ⟨_, rfl, fget T.fA (i := 7) aa1.ob rfl rfl ⟨A'.t, tdx, _, rfl, htb, zip_none (by decide +kernel), _, rfl, _, rfl, hv, hdx, _, rfl, hHo1, zip_none (by decide +kernel), hv, x.low, x.high, rfl, ⟨hdx, hHo1⟩, hlh, c1, _, _, rfl, rfl, _, rfl, ?_⟩⟩
    have ec : ((x.low : Int) + 1) = ((x.low + 1 : Nat) : Int) := by omega
    unfold tNoPart
    refine rdropI ec haw1 (by omega) fun q H2 e2 hq => ?_
    refine ⟨q, _, rfl, .inr (SqT.of hq), fun l hl => ?_⟩
    have e3 : Ex H1 (upd H2 l (.lst (nvs (x.word.drop (x.low + 1))))) := e2.trans (Ex.new hl)
    have st3 : St [] lb lb H1 _ := St.ex st1.ok e3
    have aa3 := aa1.keep st3
    refine ⟨A'.t, A'.aS, A'.aE, A'.aR, .ref l, par.k, s.S, s.E, x.word.drop (x.low + 1), rfl, aa3.b.tb, sz, ⟨l, rfl, upd_same⟩, hnotE c1, fun H4 t4 b4 tb4 => ?_⟩
    have st4 : St [8] lb lb _ H4 := St.gen st3.ok b4 (fun a z => by rw [z, aa3.b.lE]; simp) (by decide) (fun a z => by obtain ⟨_, _, ⟨us, hus, _⟩, _⟩ := tb4; rw [z]; exact ⟨_, hus, fun z => z⟩) (fun _ _ => rfl) fun a h q => absurd (st3.ok.fr a h) q
    obtain ⟨q3, q4⟩ := qu_keep aa3.qu aa3.lq st4
    obtain ⟨us, hr, hul⟩ := aa3.b.rp
    refine kq .non H4 lb { A' with vse := .non } (((st1.trans st3).trans st4).mono (by decide) LLz) ?_ rfl ?_
    · unfold Mai.lookP
      rw [if_pos c1]
      exact ⟨st4.at aa3.ob aa3.lp, aa3.lp, ⟨st4.at aa3.b.kn aa3.b.ld, aa3.b.ld, ⟨us, st4.at hr aa3.b.lr, hul⟩, aa3.b.lr, st4.at aa3.b.ct aa3.b.ln, aa3.b.ln, tb4, aa3.b.lt, aa3.b.lS, aa3.b.lE, aa3.b.lR⟩, aa3.vm.keep st4.tk, aa3.vsh.keep st4.tk, aa3.vse.keep st4, q3, q4⟩
    · unfold Mai.lookP
      rw [if_pos c1]
      exact rfl
  · rw [if_neg c1]
    have hmid : (x.low + x.high) / 2 < x.places.length := by omega
    obtain ⟨hm1, hm2⟩ := Mai.getD_mem (d := ([] : List Nat)) hmid
    obtain ⟨vs, hvs, alsp⟩ := id hWs
    obtain ⟨vp, hvp, ap, rfl, hap⟩ := alsp.get hm2
    have hix : atI vs (((x.low + x.high) / 2 : Nat) : Int) = some (.ref ap) := atI_nat hvp
    refine ⟨_, rfl, rfl, _, rfl, iteN (d_f fun z => by cases z) ?_⟩
    refine ⟨_, rfl, _, rfl, pa, _, _, _, rfl, rfl, SqL.of hvs, hix, _, rfl, fget T.fA (i := 4) aa.ob rfl rfl ⟨A'.d, _, rfl, kn_get aa.b.kn hap, _, rfl, ?_⟩⟩
    by_cases cm : x.places.getD ((x.low + x.high) / 2) [] ∈ s.ws
    · refine iteN (by rw [if_pos cm]; rfl) ?_
      refine ⟨_, rfl, hv, hdx, _, rfl, hHo, zip_none (by decide +kernel), _, rfl, fget T.fA (i := 4) aa.ob rfl rfl ⟨_, rfl, _, rfl, pa, _, _, _, rfl, rfl, SqL.of hvs, hix, A'.d, _, rfl, kn_some aa.b.kn hap cm, _, rfl, rfl, ?_⟩⟩
      refine ⟨hv, x.low, x.high, _, rfl, hHv, hlh, c1, fun H1 hv1 but => ?_⟩
      obtain ⟨hdx1, hHo1⟩ := id hv1
      have st1 : St [11] lb lb H H1 := St.gen lbo but (fun a z => by rw [z, hlv]; simp) (by decide) (fun a z => by rw [z]; exact ⟨_, hHo1, fun z => z⟩) (fun _ _ => rfl) fun a h q => absurd (lbo.fr a h) q
      obtain ⟨q1, q2⟩ := qu_keep aa.qu aa.lq st1
      refine kq .non H1 lb A' (st1.mono (by decide) LLz) ?_ rfl ?_
      · unfold Mai.lookP
        rw [if_neg c1, if_pos cm]
        refine ⟨st1.at aa.ob aa.lp, aa.lp, aa.b.keep st1, aa.vm.keep st1.tk, aa.vsh.keep st1.tk, ?_, q1, q2⟩
        refine ⟨ta, hv, pa, .ref aw, hve, ?_, ?_, hlv, ?_, hlp, ?_⟩
        · have := st1.tk.at hta
          split <;> exact this
        · by_cases ce : par.out (x.places.getD ((x.low + x.high) / 2) []) = x.o
          · rw [if_pos ce]
            have hb : (!decide (nv (par.out (x.places.getD ((x.low + x.high) / 2) [])) = nv x.o)) = false := nd_f (congrArg nv ce)
            rw [hb] at hv1
            exact hv1
          · rw [if_neg ce]
            have hb : (!decide (nv (par.out (x.places.getD ((x.low + x.high) / 2) [])) = nv x.o)) = true := nd_t fun z => ce (nv_inj z)
            rw [hb] at hv1
            exact hv1
        · have : WsAt H1 pa x.places := ⟨vs, st1.at hvs hlp, alsp.mono fun _ _ _ q => q.keep st1.tk⟩
          split <;> exact this
        · have := hTW.keep st1.tk
          split <;> exact this
      · unfold Mai.lookP
        rw [if_neg c1, if_pos cm]
        exact rfl
    · refine iteP (by rw [if_neg cm]; rfl) ⟨_, rfl, _, rfl, pa, _, _, _, rfl, rfl, SqL.of hvs, hix, ap, _, rfl, .inr (SqT.of hap), fun l hl => ⟨sz2, fun t ht => ?_⟩⟩
      have nlt : l ≠ t := ne_of_none upd_same ht
      obtain ⟨lb', h1, h2, h3⟩ := ask_new (l := l) (t := t) (wd := x.places.getD ((x.low + x.high) / 2) []) lbo aa ((Ex.new hl).trans (Ex.new ht)) hl (by rw [upd_ne nlt, upd_same]) upd_same
      refine kq _ _ lb' A' h1 ?_ rfl ?_
      · unfold Mai.lookP
        rw [if_neg c1, if_neg cm]
        exact h2
      · unfold Mai.lookP
        rw [if_neg c1, if_neg cm]
        exact h3
end
end MW
/-! ## P5 -/
namespace MW
open PySem PySem.Spec PyProof.Rows L2 Evl
section
variable {P : Program} {w : World} {K : PySem.W.Frag} {mg : Str → Option Value} {base : Heap} {c : Cs}
theorem als_split {α : Type} {R : V → α → Prop} {us : List V} {xs : List α} {x : α} (h : Als R us (xs ++ [x])) : ∃ us' v, us = us' ++ [v] ∧ Als R us' xs ∧ R v x := by
  have hl := h.len
  rw [List.length_append] at hl
  have h1 : us.length = xs.length + 1 := hl
  have hv : xs.length < us.length := by omega
  refine ⟨us.take xs.length, us[xs.length], ?_, ?_, ?_⟩
  · conv => lhs; rw [← List.take_append_drop xs.length us]
    congr 1
    rw [List.drop_eq_getElem_cons hv, List.drop_eq_nil_of_le (by omega)]
  · have := h.take xs.length
    rw [List.take_left] at this
    exact this
  · exact h.at_ xs.length _ x (List.getElem?_eq_getElem hv) (by simp)
theorem nodup_at {α : Type} : ∀ {l : List α} {i j : Nat} {x : α}, l.Nodup → l[i]? = some x → l[j]? = some x → i = j
  | [], _, _, _, _, h, _ => by simp at h
  | a :: l, 0, 0, _, _, _, _ => rfl
  | a :: l, 0, j + 1, x, nd, h1, h2 => by
    rw [List.nodup_cons] at nd
    simp at h1 h2
    exact absurd (by rw [h1]; exact List.mem_of_getElem? h2) nd.1
  | a :: l, i + 1, 0, x, nd, h1, h2 => by
    rw [List.nodup_cons] at nd
    simp at h1 h2
    exact absurd (by rw [h2]; exact List.mem_of_getElem? h1) nd.1
  | a :: l, i + 1, j + 1, x, nd, h1, h2 => by
    rw [List.nodup_cons] at nd
    simp at h1 h2
    rw [nodup_at nd.2 h1 h2]
theorem pre_sz {par : Mai.Par} {s : Mai.AS} (pr : Mai.Pre par s) (k1 : 1 ≤ par.k) (k4 : par.k ≤ 4) : Sz par.k s.S s.E :=
  ⟨k1, k4, Nat.le_trans pr.Sl (by decide), Nat.le_trans pr.El (by decide), fun w h => ⟨(pr.Sw w h).1, Nat.le_trans (pr.Sw w h).2 (by decide)⟩, pr.Ew⟩
theorem ok_Asker__fill {f : Addr} {fd : FuncData} (T : Tx K mg c) (D_Table_all_wanted : Mtd P w K mg base CX0 1 c.Table "all_wanted" p_Table_all_wanted (sp_Table_all_wanted P w K c)) (D_Table_extend : Mtd P w K mg base CX0 3 c.Table "extend" p_Table_extend (sp_Table_extend P w K c)) (D_Table_state_words : Mtd P w K mg base CX0 1 c.Table "state_words" p_Table_state_words (sp_Table_state_words P w K c)) (D_Table_machine : Mtd P w K mg base CX0 3 c.Table "machine" p_Table_machine (sp_Table_machine P w K c)) (D_Table_mistake : Mtd P w K mg base CX0 4 c.Table "mistake" p_Table_mistake (sp_Table_mistake P w K c)) (D_Asker__begin : Mtd P w K mg base CX0 3 c.Asker "_begin" p_Asker__begin (sp_Asker__begin P w K c)) (D_least : Dfn P w K mg base CX0 3 "least" p_least (sp_least P w K c)) (F : FnP K "_fill" "Asker._fill" s_Asker__fill f fd) : FnOk P w K mg base CX0 5 f fd p_Asker__fill (sp_Asker__fill P w K c) := by
  refine F.ok sc_Asker__fill (fun vs H Q E h => by obtain ⟨_, _, _, _, _, _, rfl, _⟩ := h; rfl) (fun cdv A outer s H vs Q E hr h => ?_)
  refine ⟨_, PSs.nox (pss_cons (ps_while PassesOwn.never (pt_cmpR op_gt (pe_callB call_len_seq (by rfl) T.b_len PySem.boot_len (pa_cons (pe_fld (pv 0) rfl) pa_nil)) pe_int (by rfl))
     (pss_cons (ps_set (i := 1) sc_Asker__fill.nd rfl (Or.inl rfl) (pe_bm0 PySem.F.plainAttrs_list PySem.F.slot_list_pop PySem.F.type_list_pop mt_pop (pe_fld (pv 0) rfl)))
     (pss_one (ps_if (pt_cmp (pc_dnotin (hu_of hr) (pe_callTy call_tuple_of (by rfl) T.b_tuple (by decide +kernel) (pa_cons (pv 1) pa_nil)) (pe_fld (pv 0) rfl)))
     (pss_one (ps_ret (pe_tup (pa_cons pe_str (pa_cons (pv 1) pa_nil)))))
     pss_nil))))
     (pss_cons (ps_fld (pv 0) (pe_lstRev rfl (by rfl) T.b_list (by rfl) T.b_reversed (pe_m (pe_fld (pv 0) rfl) T.k_Table D_Table_all_wanted (hr.mono (by decide)) (pa_cons (pe_fld (pv 0) rfl) pa_nil))) rfl)
     (pss_cons (ps_if (pt_cmpR op_gt (pe_callB call_len_seq (by rfl) T.b_len PySem.boot_len (pa_cons (pe_fld (pv 0) rfl) pa_nil)) pe_int (by rfl))
     (pss_one (ps_ret pe_non))
     pss_nil)
     (pss_cons (ps_if (pt_val (pe_m (pe_fld (pv 0) rfl) T.k_Table D_Table_extend (hr.mono (by decide)) (pa_cons (pe_fld (pv 0) rfl) pa_nil)))
     (pss_cons (ps_if (pt_cmpR op_gt (pe_callB call_len_seq (by rfl) T.b_len PySem.boot_len (pa_cons (pe_m0 (pe_fld (pv 0) rfl) T.k_Table D_Table_state_words (hr.mono (by decide))) pa_nil)) (pe_fld (pv 0) rfl) (by rfl))
     (pss_one (ps_ret (pe_tup (pa_cons pe_str pa_nil))))
     pss_nil)
     (pss_one (ps_ret pe_non)))
     pss_nil)
     (pss_cons (ps_fld (pv 0) (pe_m (pe_fld (pv 0) rfl) T.k_Table D_Table_machine (hr.mono (by decide)) (pa_cons (pe_fld (pv 0) rfl) (pa_cons (pe_fld (pv 0) rfl) pa_nil))) rfl)
     (pss_cons (ps_set (i := 2) sc_Asker__fill.nd rfl (Or.inl rfl) (pe_m (pe_fld (pv 0) rfl) T.k_Table D_Table_mistake (hr.mono (by decide)) (pa_cons (pe_fld (pv 0) rfl) (pa_cons (pe_fld (pv 0) rfl) pa_nil))))
     (pss_cons (ps_if (pt_cmpR op_notN (pv 2) pe_non (by rfl))
     (pss_cons (ps_set (i := 3) sc_Asker__fill.nd rfl (Or.inl rfl) (pe_bm PySem.F.plainAttrs_list PySem.F.slot_list_index PySem.F.type_list_index (mt_indexD (hu65 hr)) (pe_m0 (pe_fld (pv 0) rfl) T.k_Table D_Table_state_words (hr.mono (by decide))) (pa_cons (pe_ix ix_tup (pv 2) pe_int (fun _ _ => rfl)) pa_nil)))
     (pss_cons (ps_expr (pe_m (pv 0) T.k_Asker D_Asker__begin (hr.mono (by decide)) (pa_cons (pv 3) (pa_cons (pe_callTy call_tuple_of (by rfl) T.b_tuple (by decide +kernel) (pa_cons (pe_ix ix_tup (pv 2) pe_int (fun _ _ => rfl)) pa_nil)) pa_nil))))
     (pss_one (ps_ret pe_non))))
     pss_nil)
     (pss_cons (ps_augS (pe_fld (pv 0) rfl) pe_int pget_list pe_int ip_add set_list)
     (pss_one (ps_ret (pe_tup (pa_cons pe_str (pa_cons (pe_c D_least (hr.mono (by decide)) (pa_cons (pe_fld (pv 0) rfl) pa_nil)) pa_nil))))))))))))), ?_⟩
  obtain ⟨p, par, lb, A', s, rest, rfl, lbo, aa, pr, ⟨k1, k4, o1, o6, m30, hout⟩, hse, hsh, hSm, kq⟩ := h
  have sz := pre_sz pr k1 k4
  refine ⟨fun m σ H2 => ∃ (s1 : Option V) (q' : List (List Nat)), m = q'.length ∧ σ = [some (V.ref p), s1, none, none] ∧ St [10] lb lb H H2 ∧ (∃ us, H2 A'.q = some (.lst us) ∧ Als (LQ H2 lb) us q'.reverse) ∧ Mai.popQ s.ws q' = Mai.popQ s.ws s.q, ⟨s.q.length, none, s.q, rfl, rfl, (St.refl lbo).mono (by simp) (by decide), aa.qu, rfl⟩, ?_⟩
  rintro m σ H2 ⟨s1, q', rfl, rfl, st2, hq2, hpop⟩
  obtain ⟨us, hus, als⟩ := id hq2
  have ob2 := st2.at aa.ob aa.lp
  have b2 := aa.b.keep st2
  refine ⟨_, rfl, fget T.fA (i := 11) ob2 rfl rfl ⟨A'.q, us, rfl, .inl (SqL.of hus), _, _, rfl, rfl, _, rfl, ?_⟩⟩
  cases q' with
  | cons x r =>
    rw [List.reverse_cons] at als
    obtain ⟨us', v, rfl, als', hv⟩ := als_split als
    obtain ⟨al, rfl, hal, hal20⟩ := id hv
    refine iteP (decide_eq_true (by rw [List.length_append]; show (((us'.length + 1 : Nat) : Int)) > 0; omega)) ⟨fun σ' H' => ∃ (s1 : Option V), σ' = [some (V.ref p), s1, none, none] ∧ St [10] lb lb H H' ∧ (∃ us, H' A'.q = some (.lst us) ∧ Als (LQ H' lb) us r.reverse) ∧ Mai.popQ s.ws r = Mai.popQ s.ws s.q, ?_, ?_⟩
    · rintro σ' H' ⟨s1, h1, h2, h3, h4⟩
      exact ⟨r.length, by show r.length < r.length + 1; omega, s1, r, rfl, h1, h2, h3, h4⟩
    refine ⟨_, rfl, fget T.fA (i := 11) ob2 rfl rfl ⟨.inl ⟨rfl, _, SqL.of hus⟩, A'.q, _, .ref al, rfl, rfl, hus, by rw [List.length_append]; show (us' ++ [V.ref al])[us'.length + 1 - 1]? = _; rw [Nat.add_sub_cancel, List.getElem?_append_right (Nat.le_refl _), Nat.sub_self]; rfl, ?_⟩⟩
    rw [List.dropLast_concat]
    have st3 : St [10] lb lb H2 _ := St.upd (u := .lst us') st2.ok hus aa.lq (by decide) fun z => z
    have hal3 := st3.at hal hal20
    have ob3 := st3.at ob2 aa.lp
    have b3 := b2.keep st3
    have hq3 : ∃ us, upd H2 A'.q (.lst us') A'.q = some (.lst us) ∧ Als (LQ (upd H2 A'.q (.lst us')) lb) us r.reverse := ⟨us', upd_same, als'.mono fun _ _ _ z => z.keep st3⟩
    have st03 : St [10] lb lb H _ := (st2.trans st3).mono (by simp) (by decide)
    generalize upd H2 A'.q (.lst us') = H3 at *
    refine ⟨_, rfl, al, _, rfl, .inl ⟨SqL.of hal3, fun tq htq => ?_⟩⟩
    have e4 : Ex H3 (upd H3 tq (.tup (nvs x))) := Ex.new htq
    have htq' : upd H3 tq (.tup (nvs x)) tq = some (.tup (nvs x)) := upd_same
    generalize upd H3 tq (.tup (nvs x)) = H4 at *
    have st4 : St [] lb lb H3 H4 := St.ex st3.ok e4
    refine ⟨_, rfl, fget T.fA (i := 4) (e4 p _ ob3) rfl rfl ⟨A'.d, _, rfl, kn_get (b3.keep st4).kn htq', _, rfl, ?_⟩⟩
    have st04 : St [10] lb lb H H4 := (st03.trans st4).mono (by simp) (by decide)
    obtain ⟨q5, _⟩ := qu_keep hq3 aa.lq st4
    by_cases cm : x ∈ s.ws
    · refine iteN (by rw [if_pos cm]; rfl) ⟨_, rfl, st04, q5, ?_⟩
      rw [← hpop]
      show _ = (if x ∈ s.ws then Mai.popQ s.ws r else some (x, r))
      rw [if_pos cm]
    · refine iteP (by rw [if_neg cm]; rfl) ⟨_, rfl, sz2, fun t ht => ?_⟩
      have hp2 : Mai.popQ s.ws s.q = some (x, r) := by
        rw [← hpop]
        show (if x ∈ s.ws then Mai.popQ s.ws r else some (x, r)) = _
        rw [if_neg cm]
      have st5 : St [] lb lb H4 _ := St.ex st4.ok (Ex.new (o := HO.tup [.str "ask", .ref al]) ht)
      have st05 := st04.trans st5
      obtain ⟨q6, q7⟩ := qu_keep q5 aa.lq st5
      refine kq _ _ lb A' (st05.mono (by decide) LLz) ?_ rfl ?_
      · unfold Mai.fillP
        rw [hp2]
        exact ⟨st05.at aa.ob aa.lp, aa.lp, aa.b.keep st05, aa.vm.keep st05.tk, aa.vsh.keep st05.tk, aa.vse.keep st05, q6, q7⟩
      · unfold Mai.fillP
        rw [hp2]
        exact ⟨t, .ref al, rfl, upd_same, al, rfl, st5.at (e4 al _ hal3) hal20, hal20⟩
  | nil =>
    have husn : us = [] := by
      have := als.len
      exact List.length_eq_zero_iff.mp this
    subst husn
    refine iteN (decide_eq_false (by decide)) ?_
    have hp2 : Mai.popQ s.ws s.q = none := hpop.symm
    have hfill : Mai.fillP par s = if Mai.wanted par.k s.S s.E s.ws ≠ [] then ({ s with q := Mai.wanted par.k s.S s.E s.ws }, none)
        else match Mai.ext par.out par.k s.S s.E with
          | some r => ({ s with q := [], S := s.S ++ [r] }, if par.most < (s.S ++ [r]).length then some .full else none)
          | none => match Mai.mistP par.out (Mai.machP par.out par.k par.o s.S s.E) s.S s.E with
            | some (i, w) => ({ s with q := [], mach := some (Mai.machP par.out par.k par.o s.S s.E), srch := some (Mai.begin_ (Mai.machP par.out par.k par.o s.S s.E) s.S i w) }, none)
            | none => ({ s with q := [], mach := some (Mai.machP par.out par.k par.o s.S s.E), c2 := s.c2 + 1 }, some (.propose (Mai.machP par.out par.k par.o s.S s.E).least)) := by
      conv => lhs; unfold Mai.fillP
      rw [hp2] <;> rfl
    rw [hfill] at kq
    obtain ⟨⟨tdx, htb⟩, _⟩ := id b2.tb
    -- the queue anew
    refine ⟨_, rfl, fget T.fA (i := 7) ob2 rfl rfl ⟨A'.t, tdx, _, rfl, htb, zip_none (by decide +kernel), _, rfl, fget T.fA (i := 4) ob2 rfl rfl ⟨A'.t, A'.aS, A'.aE, A'.aR, A'.d, par.k, s.S, s.E, s.ws, par.out, rfl, b2.tb, sz, b2.kn, fun H3 r0 us0 e3 hr0 hr3 als3 => ?_⟩⟩⟩
    refine ⟨r0, us0, rfl, SqL.of hr3, fun q1 hq1 => ⟨_, rfl, fput T.fA (i := 11) ((Ex.new hq1) p _ (e3 p _ ob2)) rfl ?_⟩⟩
    have e4 : Ex H2 (upd H3 q1 (.lst us0.reverse)) := e3.trans (Ex.new hq1)
    have hq4 : upd H3 q1 (.lst us0.reverse) q1 = some (.lst us0.reverse) := upd_same
    have hq1n : H2 q1 = none := fresh_back e3 hq1
    have als4 : Als (fun v w => ∃ a, v = .ref a ∧ upd H3 q1 (.lst us0.reverse) a = some (.lst (nvs w)) ∧ H2 a = none ∧ a ≠ q1) us0 (Mai.wanted par.k s.S s.E s.ws) := als3.mono fun v w _ ⟨a, h1, h2, h3⟩ => by
      have n : a ≠ q1 := ne_of_none h2 hq1
      exact ⟨a, h1, by rw [upd_ne n]; exact h2, h3, n⟩
    generalize upd H3 q1 (.lst us0.reverse) = H4 at *
    have st4 : St [] lb (relab lb H2 fun a => match H4 a with | some (.lst _) => if a = q1 then 10 else 20 | _ => 0) H2 H4 := St.relab st2.ok e4 fun a _ hg => by
      cases z : H4 a with
      | none => rw [z] at hg; exact absurd rfl hg
      | some o =>
        refine ⟨o, rfl, fun t => ?_⟩
        cases o with
        | lst xs => exact t
        | tup xs => rw [z] at hg; exact hg rfl
        | frz ob u => rw [z] at hg; exact hg rfl
        | _ => exact t
    have lq4 : relab lb H2 (fun a => match H4 a with | some (.lst _) => if a = q1 then 10 else 20 | _ => 0) q1 = 10 := by rw [relab_new hq1n, hq4]; exact if_pos rfl
    have alq4 : Als (LQ H4 (relab lb H2 fun a => match H4 a with | some (.lst _) => if a = q1 then 10 else 20 | _ => 0)) us0 (Mai.wanted par.k s.S s.E s.ws) := als4.mono fun v w _ ⟨a, h1, h2, h3, h4⟩ => ⟨a, h1, h2, by rw [relab_new h3, h2]; exact if_neg h4⟩
    generalize (relab lb H2 fun a => match H4 a with | some (.lst _) => if a = q1 then 10 else 20 | _ => 0) = lb4 at *
    have st04 := st2.trans st4
    have ob4 := st4.at ob2 aa.lp
    have lp4 := st4.lab ob2 aa.lp
    have st5 : St [1] lb4 lb4 H4 _ := St.upd (u := .ins c.Asker A'.dx (putF "_queue" (.ref q1) (fl_Asker.zip (vals par A' rest)))) st4.ok ob4 lp4 (by decide) fun z => z
    have st05 := st04.trans st5
    have aa5 : AskAt c par _ lb4 p { A' with q := q1 } { s with q := Mai.wanted par.k s.S s.E s.ws } rest :=
      ⟨by rw [ask_put (i := 11) rfl (by simp [vals])]; rfl, lp4, ((b2.keep st4).keep st5).cg, aa.vm.keep st05.tk, aa.vsh.keep st05.tk, aa.vse.keep st05, ⟨us0.reverse, st5.at hq4 lq4, (alq4.rev).mono fun _ _ _ z => z.keep st5⟩, lq4⟩
    generalize upd H4 p (.ins c.Asker A'.dx (putF "_queue" (.ref q1) (fl_Asker.zip (vals par A' rest)))) = H5 at *
    obtain ⟨us5, hus5, als5⟩ := id aa5.qu
    have hl5 : us5.length = (Mai.wanted par.k s.S s.E s.ws).length := by rw [als5.len, List.length_reverse]
    refine ⟨_, rfl, fget T.fA (i := 11) aa5.ob rfl rfl ⟨q1, us5, rfl, .inl (SqL.of hus5), _, _, rfl, rfl, _, rfl, ?_⟩⟩
    rw [hl5]
    by_cases cw : Mai.wanted par.k s.S s.E s.ws ≠ []
    · rw [if_pos cw] at kq
      refine iteP (decide_eq_true (by have := List.length_pos_iff.mpr cw; omega)) ?_
      exact kq .non H5 lb4 { A' with q := q1 } (st05.mono (by decide) LLz) aa5 rfl rfl
    rw [if_neg cw] at kq
    have hw : Mai.wanted par.k s.S s.E s.ws = [] := Classical.byContradiction cw
    refine iteN (decide_eq_false (by rw [hw]; decide)) ?_
    rw [hw] at aa5
    have hin : ∀ x, Mai.Cell par.k s.S s.E x → x ∈ s.ws := fun x hx => Mai.wanted_nil hw hx
    obtain ⟨⟨tdx, htb⟩, _⟩ := id aa5.b.tb
    refine ⟨_, rfl, fget T.fA (i := 7) aa5.ob rfl rfl ⟨A'.t, tdx, _, rfl, htb, zip_none (by decide +kernel), _, rfl, fget T.fA (i := 4) aa5.ob rfl rfl ⟨A'.t, A'.aS, A'.aE, A'.aR, A'.d, par.k, s.S, s.E, s.ws, par.out, rfl, aa5.b.tb, sz, pr.Sl, fun v hv => (pr.Sw v hv).2, aa5.b.kn, hin, fun hext H6 e6 => ?_, fun r hext H6 aR' hR0 t6 b6 tb6 => ?_⟩⟩⟩
    · -- nothing to extend: the machine
      rw [hext] at kq
      refine ⟨_, rfl, iteF ?_⟩
      have st6 : St [] lb4 lb4 H5 H6 := St.ex st5.ok e6
      have aa6 := aa5.keep st6
      have st06 := st05.trans st6
      have hcl := Mai.closed_of hext
      have hE0 := pr.E0
      obtain ⟨⟨tdx, htb⟩, _⟩ := id aa6.b.tb
      refine ⟨_, rfl, fget T.fA (i := 7) aa6.ob rfl rfl ⟨A'.t, tdx, _, rfl, htb, zip_none (by decide +kernel), _, rfl, fget T.fA (i := 1) aa6.ob rfl rfl ⟨_, rfl, fget T.fA (i := 4) aa6.ob rfl rfl ⟨A'.t, A'.aS, A'.aE, A'.aR, A'.d, par.k, par.o, s.S, s.E, s.ws, par.out, rfl, aa6.b.tb, sz, aa6.b.kn, hin, hE0, hcl, fun vM H7 e7 hM => ⟨_, rfl, fput T.fA (i := 8) (e7 p _ aa6.ob) rfl ?_⟩⟩⟩⟩⟩
      have st7 : St [] lb4 lb4 H6 H7 := St.ex st6.ok e7
      have aa7 := aa6.keep st7
      have st8 : St [1] lb4 lb4 H7 _ := St.upd (u := .ins c.Asker A'.dx (putF "_machine" vM (fl_Asker.zip (vals par { A' with q := q1 } rest)))) st7.ok aa7.ob aa7.lp (by decide) fun z => z
      obtain ⟨q3, q4⟩ := qu_keep aa7.qu aa7.lq st8
      have aa8 : AskAt c par _ lb4 p { A' with q := q1, vm := vM } { s with q := [], mach := some (Mai.machP par.out par.k par.o s.S s.E) } rest := ⟨by rw [ask_put (i := 8) rfl (by simp [vals])]; rfl, aa7.lp, (aa7.b.keep st8).cg, hM.keep st8.tk, aa7.vsh.keep st8.tk, aa7.vse.keep st8, q3, q4⟩
      have st08 := (st06.trans st7).trans st8
      generalize upd H7 p (.ins c.Asker A'.dx (putF "_machine" vM (fl_Asker.zip (vals par { A' with q := q1 } rest)))) = H8 at *
      have wfM : (Mai.machP par.out par.k par.o s.S s.E).WF := Mai.mach_wf hcl ⟨k1, k4⟩ ⟨o1, o6⟩ ⟨by obtain ⟨r, e⟩ := pr.S0; rw [e]; simp, Nat.le_trans hSm m30⟩ fun w hw => hout w (pr.Sw w hw).1
      have hMn : (Mai.machP par.out par.k par.o s.S s.E).n = s.S.length := Mai.mach_n
      obtain ⟨⟨tdx, htb⟩, _⟩ := id aa8.b.tb
      refine ⟨_, rfl, fget T.fA (i := 7) aa8.ob rfl rfl ⟨A'.t, tdx, _, rfl, htb, zip_none (by decide +kernel), _, rfl, fget T.fA (i := 1) aa8.ob rfl rfl ⟨_, rfl, fget T.fA (i := 4) aa8.ob rfl rfl ⟨A'.t, A'.aS, A'.aE, A'.aR, A'.d, par.k, par.o, s.S, s.E, s.ws, par.out, rfl, aa8.b.tb, sz, aa8.b.kn, hin, hE0, hcl, fun hmis H9 e9 => ?_, fun i w hmis H9 a u v e9 ha hu hv => ?_⟩⟩⟩⟩
      · -- no mistake: propose
        rw [hmis] at kq
        have st9 : St [] lb4 lb4 H8 H9 := St.ex st8.ok e9
        have aa9 := aa8.keep st9
        refine ⟨_, rfl, rfl, _, rfl, iteN (nd_f rfl) ?_⟩
        refine ⟨_, rfl, fget T.fA (i := 6) aa9.ob rfl rfl ⟨A'.n, _, 2, nv s.c2, rfl, rfl, SqL.of aa9.b.ct, at_nat (j := 2) rfl rfl, _, _, rfl, rfl, A'.n, _, 2, 2, rfl, rfl, aa9.b.ct, rfl, ?_⟩⟩
        have st10 : St [5] lb4 lb4 H9 _ := St.upd (u := .lst ([nv s.ws.length, nv (s.ws.map List.length).sum, nv s.c2, nv s.c3].set 2 (.int ((s.c2 : Int) + 1)))) st9.ok aa9.b.ct aa9.b.ln (by decide) fun z => z
        have hct : upd H9 A'.n (.lst ([nv s.ws.length, nv (s.ws.map List.length).sum, nv s.c2, nv s.c3].set 2 (.int ((s.c2 : Int) + 1)))) A'.n = some (.lst [nv s.ws.length, nv (s.ws.map List.length).sum, nv (s.c2 + 1), nv s.c3]) := upd_same
        obtain ⟨q5, q6⟩ := qu_keep aa9.qu aa9.lq st10
        obtain ⟨us, hr', hul⟩ := aa9.b.rp
        have tb10 := tab_keep aa9.b.tb aa9.b.lt aa9.b.lS aa9.b.lE aa9.b.lR st10
        have aa10 : AskAt c par _ lb4 p { A' with q := q1, vm := vM } { s with q := [], mach := some (Mai.machP par.out par.k par.o s.S s.E), c2 := s.c2 + 1 } rest :=
          ⟨st10.at aa9.ob aa9.lp, aa9.lp, ⟨st10.at aa9.b.kn aa9.b.ld, aa9.b.ld, ⟨us, st10.at hr' aa9.b.lr, hul⟩, aa9.b.lr, hct, aa9.b.ln, tb10, aa9.b.lt, aa9.b.lS, aa9.b.lE, aa9.b.lR⟩, aa9.vm.keep st10.tk, aa9.vsh.keep st10.tk, aa9.vse.keep st10, q5, q6⟩
        have hM10 : MF _ vM (Mai.machP par.out par.k par.o s.S s.E) := aa10.vm
        refine ⟨_, rfl, fget T.fA (i := 8) aa10.ob rfl rfl ⟨vM, _, rfl, hM10, wfM, fun v H11 e11 hv => ⟨sz2, fun t ht => ?_⟩⟩⟩
        have st11 : St [] lb4 lb4 _ _ := St.ex st10.ok (e11.trans (Ex.new (o := HO.tup [.str "propose", v]) ht))
        have aa11 := aa10.keep st11
        refine kq _ _ lb4 { A' with q := q1, vm := vM } ((((st08.trans st9).trans st10).trans st11).mono (by decide) LLz) aa11 rfl ?_
        exact ⟨t, v, rfl, upd_same, hv.keep (tk_new ht)⟩
      · -- a mistake
        rw [hmis] at kq
        obtain ⟨hi, hwE, hne⟩ := Mai.mist_some hmis
        have st9 : St [] lb4 lb4 H8 H9 := St.ex st8.ok e9
        have aa9 := aa8.keep st9
        obtain ⟨⟨tdx, htb⟩, _⟩ := id aa9.b.tb
        have hSi : s.S[i]? = some (s.S.getD i []) := (Mai.getD_mem hi).2
        refine ⟨_, rfl, rfl, _, rfl, iteP (nd_t fun z => by cases z) ?_⟩
        refine ⟨_, rfl, fget T.fA (i := 7) aa9.ob rfl rfl ⟨A'.t, tdx, _, rfl, htb, zip_none (by decide +kernel), A'.t, A'.aS, A'.aE, A'.aR, par.k, s.S, s.E, rfl, aa9.b.tb, sz, fun H10 r1 us1 e10 hr10 hr1 alsw => ?_⟩⟩
        have st10 : St [] lb4 lb4 H9 H10 := St.ex st9.ok e10
        have aa10 := aa9.keep st10
        have hu10 := hu.keep e10
        have hv10 := hv.keep e10
        have ha10 := e10 a _ ha
        refine ⟨.inl ⟨rfl, _, SqL.of hr1⟩, _, rfl, a, _, _, _, rfl, rfl, SqT.of ha10, at_nat (j := 0) rfl rfl, r1, u, pl (s.S.getD i []), s.S.map pl, i, pl (s.S.getD i []), rfl, rfl, .lst (SqL.of hr1) (dpAll_als (fun _ _ q => dp_lw q) alsw), dp_lw hu10, list_sh pl_lay (fun x => Nat.le_trans (pl_depth x) (by decide)) _, pl_sh _, by rw [List.getElem?_map, hSi]; rfl, by rw [pl_eqv]; exact d_t rfl, fun m z' hm hz => ?_, ?_⟩
        · rw [List.getElem?_map, Option.map_eq_some_iff] at hz
          obtain ⟨y, hy, rfl⟩ := hz
          rw [pl_eqv]
          refine d_f fun e => ?_
          have := nodup_at pr.Sn hy (by rw [hSi, e] : s.S[i]? = some y)
          omega
        obtain ⟨al, rfl, hal⟩ := hv10
        refine ⟨_, rfl, p, A'.dx, _, rfl, aa10.ob, zip_none (by decide +kernel), _, rfl, _, rfl, a, _, _, _, rfl, rfl, SqT.of ha10, at_nat (j := 1) rfl rfl, al, _, rfl, .inl ⟨SqL.of hal, fun tw htw => ?_⟩⟩
        have st11 : St [] lb4 lb4 H10 _ := St.ex st10.ok (Ex.new (o := HO.tup (nvs w)) htw)
        have aa11 := aa10.keep st11
        have hwpos : 1 ≤ w.length := by
          cases w with
          | nil =>
            refine absurd ?_ hne
            rw [List.append_nil]
            exact Mai.mach_at hi
          | cons b t => simp
        refine ⟨p, i, .ref tw, par, lb4, { A' with q := q1, vm := vM }, { s with q := [], mach := some (Mai.machP par.out par.k par.o s.S s.E) }, rest, _, w, rfl, st11.ok, aa11, sz, rfl, wfM, hMn, rfl, by rw [hMn]; exact hi, ⟨tw, rfl, upd_same⟩, (pr.Ew w hwE).1, (pr.Ew w hwE).2, hwpos, fun H12 lb12 A12 st12 aa12 hnr => ?_⟩
        exact kq .non H12 lb12 A12 ((((st08.trans st9).trans (st10.trans st11)).trans st12).mono (by decide) LLz) aa12 hnr rfl
    · -- one state word more
      rw [hext] at kq
      refine ⟨_, rfl, iteT ?_⟩
      obtain ⟨hrf, _⟩ := Mai.ext_some hext
      obtain ⟨⟨tdx6, htb6⟩, ⟨v6, hS6, _⟩, _, ⟨vr6, hR6, _⟩, _⟩ := id tb6
      have st6 : St [6, 7] lb4 (relab lb4 H5 fun a => if a = aR' then 9 else 0) H5 H6 := St.gen st5.ok b6 (fun a z => by
          rcases z with z | z
          · rw [z, aa5.b.lt]; simp
          · rw [z, aa5.b.lS]; simp) (by decide) (fun a z => by
          rcases z with z | z
          · rw [z]; exact ⟨_, htb6, fun z => z⟩
          · rw [z]; exact ⟨_, hS6, fun z => z⟩) (fun a h => relab_old h) fun a h q => by
          rw [relab_new h] at q
          by_cases c1 : a = aR'
          · rw [c1]; exact ⟨_, hR6, fun z => z⟩
          · rw [if_neg c1] at q; exact absurd rfl q
      have lR6 : relab lb4 H5 (fun a => if a = aR' then 9 else 0) aR' = 9 := by rw [relab_new hR0, if_pos rfl]
      obtain ⟨l1, l2, l3, l4⟩ := tab_lab aa5.b.tb aa5.b.lt aa5.b.lS aa5.b.lE aa5.b.lR st6
      obtain ⟨us, hr', hul⟩ := aa5.b.rp
      generalize relab lb4 H5 (fun a => if a = aR' then 9 else 0) = lb6 at *
      obtain ⟨q5, q6⟩ := qu_keep aa5.qu aa5.lq st6
      have aa6 : AskAt c par H6 lb6 p { A' with q := q1, aR := aR' } { s with q := [], S := s.S ++ [r] } rest :=
        ⟨st6.at aa5.ob aa5.lp, st6.lab aa5.ob aa5.lp, ⟨st6.at aa5.b.kn aa5.b.ld, st6.lab aa5.b.kn aa5.b.ld, ⟨us, st6.at hr' aa5.b.lr, hul⟩, st6.lab hr' aa5.b.lr, st6.at aa5.b.ct aa5.b.ln, st6.lab aa5.b.ct aa5.b.ln, tb6, l1, l2, l3, lR6⟩, aa5.vm.keep st6.tk, aa5.vsh.keep st6.tk, aa5.vse.keep st6, q5, q6⟩
      have st06 := st05.trans st6
      have szr : Sz par.k (s.S ++ [r]) s.E := ⟨k1, k4, by rw [List.length_append]; have := pr.Sl; show _ + 1 ≤ _; omega, sz.El, fun y hy => by
        rcases List.mem_append.mp hy with hy | hy
        · exact sz.Sw y hy
        · have : y = r := by simpa using hy
          rw [this]
          obtain ⟨⟨v, hv, a, ha, er⟩, _⟩ := Mai.mem_further.mp hrf
          have := pr.Sw v hv
          rw [er]
          exact ⟨Mai.okw_app.mpr ⟨this.1, Mai.okw_cons.mpr ⟨ha, Mai.okw_nil _⟩⟩, by rw [List.length_append]; show _ + 1 ≤ _; omega⟩, sz.Ew⟩
      refine ⟨_, rfl, fget T.fA (i := 7) aa6.ob rfl rfl ⟨A'.t, tdx6, _, rfl, htb6, zip_none (by decide +kernel), A'.t, A'.aS, A'.aE, aR', par.k, s.S ++ [r], s.E, rfl, tb6, szr, fun H7 r1 us1 e7 hr10 hr1 alsw => ?_⟩⟩
      have st7 : St [] lb6 lb6 H6 H7 := St.ex st6.ok e7
      have aa7 := aa6.keep st7
      refine ⟨r1, us1, rfl, .inl (SqL.of hr1), _, rfl, fget T.fA (i := 2) aa7.ob rfl rfl ⟨_, _, rfl, rfl, _, rfl, ?_⟩⟩
      rw [alsw.len]
      by_cases cf : par.most < (s.S ++ [r]).length
      · refine iteP (decide_eq_true (by omega)) ⟨sz1, fun t ht => ?_⟩
        have st8 : St [] lb6 lb6 H7 _ := St.ex st7.ok (Ex.new (o := HO.tup [.str "full"]) ht)
        have aa8 := aa7.keep st8
        refine kq _ _ lb6 { A' with q := q1, aR := aR' } (((st06.trans st7).trans st8).mono (by decide) LLz) aa8 rfl ?_
        show SvO _ _ _ (if par.most < (s.S ++ [r]).length then some Mai.Stp.full else none)
        rw [if_pos cf]
        exact ⟨t, rfl, upd_same⟩
      · refine iteN (decide_eq_false (by omega)) ?_
        refine kq .non H7 lb6 { A' with q := q1, aR := aR' } ((st06.trans st7).mono (by decide) LLz) aa7 rfl ?_
        show SvO _ _ _ (if par.most < (s.S ++ [r]).length then some Mai.Stp.full else none)
        rw [if_neg cf]
        exact rfl

theorem W_le {P : Mai.Par} {N m : Nat} {s : Mai.AS} (h : Mai.W P N m s) : s.S.length ≤ P.most := by
  cases h with
  | fill h => exact h.le
  | judge h => exact h.cl.le
  | search h => exact h.cl.le
theorem step_ws (P : Mai.Par) (s : Mai.AS) : (Mai.stepP P s).1.ws = s.ws ∧ (Mai.stepP P s).1.c3 = s.c3 ∧ (Mai.stepP P s).1.c2 = s.c2 + isO (Mai.stepP P s).2 := by
  unfold Mai.stepP
  split
  · unfold Mai.lookP
    split
    · exact ⟨rfl, rfl, rfl⟩
    · split <;> exact ⟨rfl, rfl, rfl⟩
  · split
    · unfold Mai.judgeP
      split <;> exact ⟨rfl, rfl, rfl⟩
    · unfold Mai.fillP
      split
      · exact ⟨rfl, rfl, rfl⟩
      · split
        · exact ⟨rfl, rfl, rfl⟩
        · split
          · refine ⟨rfl, rfl, ?_⟩
            split <;> rfl
          · split <;> exact ⟨rfl, rfl, rfl⟩
theorem ctx_k {P : Mai.Par} {sec : Mai.Mach} (x : Mai.Ctx P sec) : 1 ≤ P.k ∧ P.k ≤ 4 ∧ 1 ≤ P.o ∧ P.o ≤ 6 ∧ P.most ≤ 30 ∧ ∀ w, Mai.okw P.k w → P.out w < P.o := by
  refine ⟨x.k ▸ x.wf.k1, x.k ▸ x.wf.k4, x.o ▸ x.wf.o1, x.o ▸ x.wf.o6, x.m30, fun w hw => ?_⟩
  rw [x.out, x.o]
  exact x.wf.at_lt (x.wf.run x.wf.n0 (x.k ▸ hw))
theorem ok_Asker__next_step {f : Addr} {fd : FuncData} (T : Tx K mg c) (D_Asker__look : Mtd P w K mg base CX0 3 c.Asker "_look" p_Asker__look (sp_Asker__look P w K c)) (D_Asker__judge : Mtd P w K mg base CX0 4 c.Asker "_judge" p_Asker__judge (sp_Asker__judge P w K c)) (D_Asker__fill : Mtd P w K mg base CX0 5 c.Asker "_fill" p_Asker__fill (sp_Asker__fill P w K c)) (F : FnP K "_next_step" "Asker._next_step" s_Asker__next_step f fd) : FnOk P w K mg base CX0 6 f fd p_Asker__next_step (sp_Asker__next_step P w K c) := by
  refine F.ok sc_Asker__next_step (fun vs H Q E h => by obtain ⟨_, _, _, _, _, _, _, _, rfl, _⟩ := h; rfl) (fun cdv A outer s H vs Q E hr h => ?_)
  refine ⟨_, PSs.nox (pss_one (ps_while PassesOwn.never (pt_val pe_bl)
     (pss_cut (ps_if (pt_cmpR op_notN (pe_fld (pv 0) rfl) pe_non (by rfl))
     (pss_one (ps_set (i := 1) sc_Asker__next_step.nd rfl (Or.inl rfl) (pe_m0 (pv 0) T.k_Asker D_Asker__look (hr.mono (by decide)))))
     (pss_one (ps_if (pt_cmpR op_notN (pe_fld (pv 0) rfl) pe_non (by rfl))
     (pss_one (ps_set (i := 1) sc_Asker__next_step.nd rfl (Or.inl rfl) (pe_m0 (pv 0) T.k_Asker D_Asker__judge (hr.mono (by decide)))))
     (pss_one (ps_set (i := 1) sc_Asker__next_step.nd rfl (Or.inl rfl) (pe_m0 (pv 0) T.k_Asker D_Asker__fill (hr.mono (by decide))))))))
     (pss_one (ps_if (pt_cmpR op_notN (pv 1) pe_non (by rfl))
     (pss_one (ps_ret (pv 1)))
     pss_nil))))), ?_⟩
  obtain ⟨p, par, sec, lb, A', s, rest, n, rfl, lbo, aa, ctx, hW, kq⟩ := h
  refine ⟨fun m σ H2 => ∃ (s1 : Option V) (lb2 : Addr → Nat) (A2 : AD) (s2 : Mai.AS), σ = [some (V.ref p), s1] ∧ St LL lb lb2 H H2 ∧ AskAt c par H2 lb2 p A2 s2 rest ∧ A2.nr = A'.nr ∧ Mai.W par sec.least.n m s2 ∧ s2.ws = s.ws ∧ (s2.c3 = s.c3 ∧ s2.c2 = s.c2),
    ⟨n, none, lb, A', s, rfl, (St.refl lbo).mono (by simp) LLz, aa, rfl, hW, rfl, rfl, rfl⟩, ?_⟩
  rintro m σ H2 ⟨s1, lb2, A2, s2, rfl, st2, aa2, hnr, hW2, hws, hc3⟩
  refine ⟨true, rfl, iteP rfl ⟨fun σ' H' => ∃ m', m' < m ∧ ∃ (s1 : Option V) (lb2 : Addr → Nat) (A2 : AD) (s2 : Mai.AS), σ' = [some (V.ref p), s1] ∧ St LL lb lb2 H H' ∧ AskAt c par H' lb2 p A2 s2 rest ∧ A2.nr = A'.nr ∧ Mai.W par sec.least.n m' s2 ∧ s2.ws = s.ws ∧ (s2.c3 = s.c3 ∧ s2.c2 = s.c2), fun σ' H' h => h, ?_⟩⟩
  obtain ⟨pr, hno, hyes⟩ := Mai.W_step ctx hW2
  obtain ⟨k1, k4, o1, o6, m30, hout⟩ := ctx_k ctx
  have sz := pre_sz pr k1 k4
  refine ⟨fun σ' H' => ∃ (v : V) (lb3 : Addr → Nat) (A3 : AD), σ' = [some (V.ref p), some v] ∧ St LL lb2 lb3 H2 H' ∧ AskAt c par H' lb3 p A3 (Mai.stepP par s2).1 rest ∧ A3.nr = A2.nr ∧ SvO H' lb3 v (Mai.stepP par s2).2, ?_, ?_⟩
  · refine ⟨_, rfl, fget T.fA (i := 10) aa2.ob rfl rfl ⟨rfl, _, rfl, ?_⟩⟩
    cases hse : s2.srch with
    | some x =>
      have hSe : SeAt c H2 lb2 A2.vse x := by have := aa2.vse; rw [hse] at this; exact this
      obtain ⟨ta, _, _, _, hve, _⟩ := hSe
      obtain ⟨g1, g2, g3, g4, g5, g6, g7⟩ := pr.look x hse
      refine iteP (by rw [hve]; exact nd_t fun z => by cases z) ⟨_, rfl, p, A2.dx, _, rfl, aa2.ob, zip_none (by decide +kernel), p, par, lb2, A2, s2, rest, x, rfl, st2.ok, aa2, sz, hse, g1, g2, g3, g4, fun q hq => (g6 q hq).2, g7, fun v H3 lb3 A3 st3 aa3 hnr3 hsv => ?_⟩
      have e : Mai.stepP par s2 = Mai.lookP par s2 x := by unfold Mai.stepP; rw [hse]
      rw [← e] at aa3 hsv
      exact ⟨v, lb3, A3, rfl, st3, aa3, hnr3, hsv⟩
    | none =>
      have hve : A2.vse = .non := by have := aa2.vse; rw [hse] at this; exact this
      refine iteN (by rw [hve]; rfl) ⟨_, rfl, fget T.fA (i := 9) aa2.ob rfl rfl ⟨rfl, _, rfl, ?_⟩⟩
      cases hsh : s2.shown with
      | some wd =>
        have hTW : TW H2 A2.vsh wd := by have := aa2.vsh; rw [hsh] at this; exact this
        obtain ⟨aw, hvw, _⟩ := hTW
        obtain ⟨g1, g2, g3, g4, g5⟩ := pr.judge wd hse hsh
        have hn1 : 1 ≤ s2.S.length := by obtain ⟨r, e⟩ := pr.S0; rw [e]; simp
        have wfM : (s2.M par).WF := Mai.mach_wf g2 ⟨k1, k4⟩ ⟨o1, o6⟩ ⟨hn1, pr.Sl⟩ fun w hw => hout w (pr.Sw w hw).1
        have hpos : 1 ≤ wd.length := by
          cases wd with
          | nil =>
            refine absurd ?_ g3
            obtain ⟨r, e⟩ := pr.S0
            have h0 : (s2.M par).out 0 [] = par.out (s2.S.getD 0 []) := Mai.mach_at hn1
            rw [h0, e]
            rfl
          | cons b t => simp
        refine iteP (by rw [hvw]; exact nd_t fun z => by cases z) ⟨_, rfl, p, A2.dx, _, rfl, aa2.ob, zip_none (by decide +kernel), p, par, lb2, A2, s2, rest, s2.M par, wd, rfl, st2.ok, aa2, sz, pr.S0, g1, wfM, Mai.mach_n, rfl, hse, hsh, g3, g4, g5, hpos, fun v H3 lb3 A3 st3 aa3 hnr3 hsv => ?_⟩
        have e : Mai.stepP par s2 = Mai.judgeP s2 (s2.M par) wd := by unfold Mai.stepP; rw [hse, hsh, g1]; rfl
        rw [← e] at aa3 hsv
        exact ⟨v, lb3, A3, rfl, st3, aa3, hnr3, hsv⟩
      | none =>
        have hvh : A2.vsh = .non := by have := aa2.vsh; rw [hsh] at this; exact this
        refine iteN (by rw [hvh]; rfl) ⟨_, rfl, p, A2.dx, _, rfl, aa2.ob, zip_none (by decide +kernel), p, par, lb2, A2, s2, rest, rfl, st2.ok, aa2, pr, ⟨k1, k4, o1, o6, m30, hout⟩, hse, hsh, W_le hW2, fun v H3 lb3 A3 st3 aa3 hnr3 hsv => ?_⟩
        have e : Mai.stepP par s2 = Mai.fillP par s2 := by unfold Mai.stepP; rw [hse, hsh]
        rw [← e] at aa3 hsv
        exact ⟨v, lb3, A3, rfl, st3, aa3, hnr3, hsv⟩
  · rintro σ' H3 ⟨v, lb3, A3, rfl, st3, aa3, hnr3, hsv⟩
    obtain ⟨w1, w2, w3⟩ := step_ws par s2
    have st23 := (st2.trans st3).mono (L := LL ++ LL) (M1 := LL) (by simp) LLz
    cases hs : (Mai.stepP par s2).2 with
    | none =>
      rw [hs] at hsv
      have hv : v = .non := hsv
      subst hv
      obtain ⟨m', hm, hW3⟩ := hno (Mai.stepP par s2).1 (by rw [← hs])
      refine ⟨_, rfl, rfl, _, rfl, iteN rfl ⟨m', hm, _, lb3, A3, _, rfl, st23, aa3, by rw [hnr3, hnr], hW3, by rw [w1, hws], by rw [w2, hc3.1], by rw [w3, hc3.2, hs]; rfl⟩⟩
    | some x =>
      rw [hs] at hsv
      have hR := hyes (Mai.stepP par s2).1 x (by rw [← hs])
      have hv : ∃ a, v = .ref a := by
        have hsv : SvAt H3 lb3 v x := hsv
        cases x with
        | ask w => obtain ⟨a, _, e, _⟩ := hsv; exact ⟨a, e⟩
        | propose m => obtain ⟨a, _, e, _⟩ := hsv; exact ⟨a, e⟩
        | full => obtain ⟨a, e, _⟩ := hsv; exact ⟨a, e⟩
        | done m => obtain ⟨a, _, e, _⟩ := hsv; exact ⟨a, e⟩
      obtain ⟨av, rfl⟩ := hv
      exact ⟨_, rfl, rfl, _, rfl, iteP (nd_t fun z => by cases z) ⟨_, rfl, kq _ H3 lb3 A3 _ x st23 aa3 (by rw [hnr3, hnr]) hsv hR (by rw [w1, hws]) ⟨by rw [w2, hc3.1], by rw [w3, hc3.2, hs]; rfl⟩⟩⟩
end
end MW
/-! ## W10 -/
namespace MW
open PySem PySem.Spec PyProof.Rows L2 Evl
def sp_is_word_asker (P : Program) (w : World) (K : PySem.W.Frag) (c : Cs) : Sp := fun vs H Q _ => ∃ (wv : V) (k n : Nat) (wd : List Nat), vs = [wv, nv k, nv n] ∧ LW H wv wd ∧ Mai.okw k wd ∧ wd.length ≤ n ∧ wd.length ≤ 1000 ∧ ∀ H', Ex H H' → Q (.bl true) H'
def sp_digits_of (P : Program) (w : World) (K : PySem.W.Frag) (c : Cs) : Sp := fun vs H Q _ => ∃ (wv : V) (wd : List Nat), vs = [wv] ∧ LW H wv wd ∧ Mai.okw 4 wd ∧ wd.length ≤ 300 ∧ ∀ H' z, Ex H H' → z.length ≤ 1000 → Q (.str z) H'
def sp_read_known (P : Program) (w : World) (K : PySem.W.Frag) (c : Cs) : Sp := fun vs H Q _ => ∃ (k o : Nat) (a : Addr), vs = [nv k, nv o, .ref a] ∧ H a = some (.lst []) ∧ ∀ H' d, Ex H H' → H d = none → H' d = some (.dK []) → Q (.ref d) H'
/-! ### promises of the asker's own methods -/
def sp_Asker_init (P : Program) (w : World) (K : PySem.W.Frag) (c : Cs) : Sp := fun vs H Q _ => ∃ (p dx a : Addr) (par : Mai.Par) (sec : Mai.Mach) (lb : Addr → Nat), vs = [.ref p, nv par.k, nv par.o, nv par.most, .ref a] ∧ H p = some (.ins c.Asker dx []) ∧ H a = some (.lst []) ∧ Lb H lb ∧ lb p = 1 ∧ Mai.Ctx par sec ∧
  ∀ H' lb' A sv s y, St LL lb lb' H H' → AskAt c par H' lb' p A s [sv] → SvAt H' lb' sv y → Mai.R par sec.least.n s y → s.ws = [] → (s.c3 = 0 ∧ s.c2 = 0 + isP y) → A.nr = 0 → Q .non H'
def sp_Asker_step (P : Program) (w : World) (K : PySem.W.Frag) (c : Cs) : Sp := fun vs H Q _ => ∃ (p : Addr) (par : Mai.Par) (lb : Addr → Nat) (A : AD) (s : Mai.AS) (sv : V) (y : Mai.Stp), vs = [.ref p] ∧ AskAt c par H lb p A s [sv] ∧ SvAt H lb sv y ∧
  (∀ wd, y = .ask wd → ∀ H' a l, Ex H H' → H a = none → H l = none → H' a = some (.tup [.str "ask", .ref l]) → H' l = some (.lst (nvs wd)) → Q (.ref a) H') ∧ ((∀ wd, y ≠ .ask wd) → Q sv H)
def kindOf : Mai.Stp → Str
  | .ask _ => "ask"
  | .propose _ => "propose"
  | .full => "full"
  | .done _ => "done"
def sp_Asker_need (P : Program) (w : World) (K : PySem.W.Frag) (c : Cs) : Sp := fun vs H Q _ => ∃ (p : Addr) (par : Mai.Par) (lb : Addr → Nat) (A : AD) (s : Mai.AS) (sv : V) (y : Mai.Stp), vs = [.ref p, .str (kindOf y)] ∧ AskAt c par H lb p A s [sv] ∧ SvAt H lb sv y ∧ Q .non H
/-- what a method of the asker leaves -/
def AskNext (c : Cs) (par : Mai.Par) (N : Nat) (H : Hp) (lb : Addr → Nat) (p : Addr) (A : AD) (ws : List (List Nat)) (c3 c2 : Nat) (Q : VK) : Prop :=
  ∀ H' lb' A' sv s y, St LL lb lb' H H' → AskAt c par H' lb' p A' s [sv] → SvAt H' lb' sv y → Mai.R par N s y → s.ws = ws → (s.c3 = c3 ∧ s.c2 = c2 + isP y) → A'.nr = A.nr + 1 → Q .non H'
def sp_Asker_answer (P : Program) (w : World) (K : PySem.W.Frag) (c : Cs) : Sp := fun vs H Q _ => ∃ (p : Addr) (par : Mai.Par) (sec : Mai.Mach) (lb : Addr → Nat) (A : AD) (s : Mai.AS) (sv : V) (wd : List Nat), vs = [.ref p, nv (par.out wd)] ∧ Lb H lb ∧ AskAt c par H lb p A s [sv] ∧ SvAt H lb sv (.ask wd) ∧ Mai.Ctx par sec ∧ Mai.R par sec.least.n s (.ask wd) ∧ A.nr ≤ 100000 ∧ AskNext c par sec.least.n H lb p A (s.ws ++ [wd]) s.c3 s.c2 Q
def sp_Asker_accept (P : Program) (w : World) (K : PySem.W.Frag) (c : Cs) : Sp := fun vs H Q _ => ∃ (p : Addr) (par : Mai.Par) (lb : Addr → Nat) (A : AD) (s : Mai.AS) (sv : V) (m : Mai.Mach), vs = [.ref p] ∧ Lb H lb ∧ AskAt c par H lb p A s [sv] ∧ SvAt H lb sv (.propose m) ∧ A.nr ≤ 100000 ∧
  ∀ H' lb' A' sv', St LL lb lb' H H' → AskAt c par H' lb' p A' s [sv'] → SvAt H' lb' sv' (.done m) → A'.nr = A.nr + 1 → Q .non H'
def sp_Asker_show (P : Program) (w : World) (K : PySem.W.Frag) (c : Cs) : Sp := fun vs H Q _ => ∃ (p : Addr) (wv : V) (par : Mai.Par) (sec : Mai.Mach) (lb : Addr → Nat) (A : AD) (s : Mai.AS) (sv : V) (m : Mai.Mach) (wd : List Nat), vs = [.ref p, wv] ∧ Lb H lb ∧ AskAt c par H lb p A s [sv] ∧ SvAt H lb sv (.propose m) ∧ Mai.Ctx par sec ∧ Mai.R par sec.least.n s (.propose m) ∧ A.nr ≤ 100000 ∧ (∃ a, wv = .ref a ∧ H a = some (.lst (nvs wd)) ∧ lb a ∉ LL) ∧ Mai.okw par.k wd ∧ wd.length ≤ 300 ∧ par.out wd ≠ (s.M par).out 0 wd ∧
  AskNext c par sec.least.n H lb p A s.ws (max s.c3 wd.length) s.c2 Q
def sp_Asker_report (P : Program) (w : World) (K : PySem.W.Frag) (c : Cs) : Sp := fun vs H Q _ => ∃ (p : Addr) (par : Mai.Par) (lb : Addr → Nat) (A : AD) (s : Mai.AS) (sv : V), vs = [.ref p] ∧ AskAt c par H lb p A s [sv] ∧
  ∀ H' a, Ex H H' → H' a = some (.tup [nv s.ws.length, nv (s.ws.map List.length).sum, nv s.c2, nv s.c3]) → Q (.ref a) H'
end MW
/-! ## P6 -/
namespace MW
open PySem PySem.Spec PyProof.Rows L2 Evl
section
variable {P : Program} {w : World} {K : PySem.W.Frag} {mg : Str → Option Value} {base : Heap} {c : Cs}
theorem ok_is_word_asker {f : Addr} {fd : FuncData} (T : Tx K mg c)  (F : FnP K "is_word" "is_word" s_is_word_asker f fd) : FnOk P w K mg base CX0 1 f fd p_is_word_asker (sp_is_word_asker P w K c) := by
  refine F.ok sc_is_word_asker (fun vs H Q E h => by obtain ⟨_, _, _, _, rfl, _⟩ := h; rfl) (fun cdv A outer s H vs Q E hr h => ?_)
  refine ⟨_, PSs.nox (pss_one (ps_ret (pe_and (pe_cmpR op_le (pe_callB call_len_seq (by rfl) T.b_len PySem.boot_len (pa_cons (pv 0) pa_nil)) (pv 2) (by rfl)) (pe_one (pe_callB (cr_all rfl) (by rfl) T.b_all (by decide +kernel) (pa_cons (pe_lc (own := [("letter", 3)]) (te := (tChain (rI0 fun i j => .bl (decide (i ≤ j))) (rI0 fun i j => .bl (decide (i < j))) (tC (.int 0)) (tVar 3) (tVar 1))) (by rfl) sc_is_word_asker.nd (pi_list (pv 0)) (blkOk_by (N := N_is_word_asker) (sc := (defScope s_is_word_asker)) (by decide +kernel)) (fun _ _ _ _ _ => (pg_name (i := 3) sc_is_word_asker.nd rfl (Or.inl rfl))) (fun _ _ _ _ _ => pts_nil) (fun _ _ _ _ _ => (pe_chain op_le op_lt pe_int (pv 3) (pv 1)))) pa_nil)))))), ?_⟩
  obtain ⟨wv, k, n, wd, rfl, ⟨a, rfl, ha⟩, hok, hn, h1000, kq⟩ := h
  refine ⟨_, rfl, a, _, rfl, .inl (SqL.of ha), _, rfl, _, _, rfl, rfl, true, ?_, ?_⟩
  · rw [nvs_len]; exact congrArg V.bl (decide_eq_true (by omega))
  refine iteP rfl ⟨_, rfl, a, rfl, ⟨_, SqL.of ha⟩, fun D hD => lc_w hD (walk_list.mono (fun H2 e => SqL.of (e a _ ha)) fun _ _ _ _ _ _ y => y) (fun _ => rfl) (fun _ v _ => v = .bl true) (fun _ _ _ _ _ h _ _ => h) (fun _ _ _ _ h _ => h) ?_ (by rw [nvs_len]; omega) ?_⟩
  · rintro i x H2 H3 hi e2 _ ⟨rfl, hx⟩ Q' kk
    obtain ⟨y, hy, rfl⟩ := nvs_of hx
    have hyk := hok y (List.mem_of_getElem? hy)
    refine ⟨_, rfl, _, _, rfl, rfl, _, rfl, iteP (decide_eq_true (by omega)) ⟨_, rfl, _, _, rfl, rfl, ?_⟩⟩
    exact kk _ _ (Ex.refl _) (by intro z; cases z) (congrArg V.bl (decide_eq_true (by omega)))
  · intro H2 acc e2 hacc hal hap
    have := trues hal hap
    subst this
    refine ⟨D, _, rfl, SqL.of hacc, ?_⟩
    rw [all_true]
    exact kq H2 e2

def dgS (n : Nat) : Str := toString (n : Int)
theorem dgS_len : ∀ {n : Nat}, n < 6 → (dgS n).length = 1
  | 0, _ => by decide +kernel
  | 1, _ => by decide +kernel
  | 2, _ => by decide +kernel
  | 3, _ => by decide +kernel
  | 4, _ => by decide +kernel
  | 5, _ => by decide +kernel
  | n + 6, h => by omega
theorem dgS_log : ∀ {n : Nat}, n < 6 → ((n : Int)).natAbs.log2 < 1920
  | 0, _ => by decide +kernel
  | 1, _ => by decide +kernel
  | 2, _ => by decide +kernel
  | 3, _ => by decide +kernel
  | 4, _ => by decide +kernel
  | 5, _ => by decide +kernel
  | n + 6, h => by omega
theorem dgS_sum : ∀ {w : List Nat}, Mai.okw 4 w → ((w.map dgS).map (·.length)).sum = w.length
  | [], _ => rfl
  | a :: w, h => by
    have h1 := Mai.okw_cons.mp h
    have h11 := h1.1
    rw [List.map_cons, List.map_cons, List.sum_cons, dgS_len (by omega), dgS_sum h1.2, List.length_cons]
    omega
theorem join_len (y : Str) : ∀ ps : List Str, y.length = 0 → (Str.join y ps).length ≤ (ps.map (·.length)).sum
  | [], _ => Nat.zero_le _
  | [x], _ => by show x.length ≤ _; simp
  | x :: z :: r, h => by
    show (x ++ y ++ Str.join y (z :: r)).length ≤ _
    rw [Str.length_append, Str.length_append, h, List.map_cons, List.sum_cons]
    have := join_len y (z :: r) h
    omega
theorem ok_digits_of {f : Addr} {fd : FuncData} (T : Tx K mg c)  (F : FnP K "digits_of" "digits_of" s_digits_of f fd) : FnOk P w K mg base CX0 1 f fd p_digits_of (sp_digits_of P w K c) := by
  refine F.ok sc_digits_of (fun vs H Q E h => by obtain ⟨_, _, rfl, _⟩ := h; rfl) (fun cdv A outer s H vs Q E hr h => ?_)
  refine ⟨_, PSs.nox (pss_one (ps_ret (pe_orT (pe_bm PySem.F.plainAttrs_str PySem.F.slot_str_join PySem.F.type_str_join mt_join pe_str (pa_cons (pe_lc (own := [("letter", 1)]) (te := (tCB rStrI (tCons (tVar 1) tNil))) (by rfl) sc_digits_of.nd (pi_list (pv 0)) (blkOk_by (N := N_digits_of) (sc := (defScope s_digits_of)) (by decide +kernel)) (fun _ _ _ _ _ => (pg_name (i := 1) sc_digits_of.nd rfl (Or.inl rfl))) (fun _ _ _ _ _ => pts_nil) (fun _ _ _ _ _ => (pe_callTy call_str_int (by rfl) T.b_str (by decide +kernel) (pa_cons (pv 1) pa_nil)))) pa_nil)) (pe_one pe_str)))), ?_⟩
  obtain ⟨wv, wd, rfl, ⟨a, rfl, ha⟩, hok, hlen, kq⟩ := h
  refine ⟨rfl, _, rfl, a, rfl, ⟨_, SqL.of ha⟩, fun D hD => lc_w hD (walk_list.mono (fun H2 e => SqL.of (e a _ ha)) fun _ _ _ _ _ _ y => y) (fun _ => rfl) (fun i v _ => ∀ x, wd[i]? = some x → v = .str (dgS x)) (fun _ _ _ _ _ h _ _ => h) (fun _ _ _ _ h _ => h) ?_ (by rw [nvs_len]; omega) ?_⟩
  · rintro i x H2 H3 hi e2 _ ⟨rfl, hx⟩ Q' kk
    obtain ⟨y, hy, rfl⟩ := nvs_of hx
    have hyk := hok y (List.mem_of_getElem? hy)
    refine ⟨_, rfl, _, rfl, dgS_log (by omega), kk _ _ (Ex.refl _) (by intro z; cases z) fun z hz => ?_⟩
    rw [hy] at hz
    cases hz
    rfl
  · intro H2 acc e2 hacc hal hap
    have eacc : acc = (wd.map dgS).map V.str := by
      rw [List.map_map]
      exact vals_each (by rw [hal, nvs_len]) fun i v x h1 h2 => hap i v h1 x h2
    subst eacc
    have hs := dgS_sum hok
    have e0 : (Str.ofString "").length = 0 := by decide +kernel
    refine ⟨_, D, wd.map dgS, rfl, rfl, .inl (SqL.of hacc), ?_, ?_⟩
    · rw [hs, e0]; omega
    have hj : (Txt.join (Str.ofString "") (wd.map dgS)).length ≤ 300 := by
      rw [TL.join_eq]
      exact Nat.le_trans (join_len _ _ e0) (by rw [hs]; exact hlen)
    refine ⟨_, ⟨szle (by omega), rfl⟩, ?_⟩
    cases ((Txt.join (Str.ofString "") (wd.map dgS)).length : Int) != 0 with
    | true => exact iteT (kq H2 _ e2 (by omega))
    | false => exact iteF (kq H2 _ e2 (by decide +kernel))

theorem ok_read_known {f : Addr} {fd : FuncData} (T : Tx K mg c) (D_is_word_asker : Dfn P w K mg base CX0 1 "is_word_asker" p_is_word_asker (sp_is_word_asker P w K c)) (F : FnP K "read_known" "read_known" s_read_known f fd) : FnOk P w K mg base CX0 2 f fd p_read_known (sp_read_known P w K c) := by
  refine F.ok sc_read_known (fun vs H Q E h => by obtain ⟨_, _, _, rfl, _⟩ := h; rfl) (fun cdv A outer s H vs Q E hr h => ?_)
  refine ⟨_, PSs.nox (pss_cons (ps_if (pt_cmpR op_gt (pe_callB call_len_seq (by rfl) T.b_len PySem.boot_len (pa_cons (pv 2) pa_nil)) (pe_gi rfl T.c_MAX_KNOWN) (by rfl))
     (pss_one (ps_never))
     pss_nil)
     (pss_cons (ps_for PassesOwn.never rfl (pi_list (pv 2)) (pg_tup (by rfl) (pgs_cons (pg_name (i := 3) sc_read_known.nd rfl (Or.inl rfl)) (pgs_cons (pg_name (i := 4) sc_read_known.nd rfl (Or.inl rfl)) pgs_nil)))
     (pss_one (ps_if (PW.pt (pw_or (pt_not (pt_val (pe_c D_is_word_asker (hr.mono (by decide)) (pa_cons (pv 3) (pa_cons (pv 0) (pa_cons (pe_gi rfl T.c_MAX_WORD) pa_nil)))))) (pw_or1 (pt_not (pt_chain op_le op_lt pe_int (pv 4) (pv 1))))))
     (pss_one (ps_never))
     pss_nil)))
     (pss_cons (ps_set (i := 5) sc_read_known.nd rfl (Or.inl rfl) pe_dnewK)
     (pss_cons (ps_for PassesOwn.never rfl (pi_list (pv 2)) (pg_tup (by rfl) (pgs_cons (pg_name (i := 3) sc_read_known.nd rfl (Or.inl rfl)) (pgs_cons (pg_name (i := 4) sc_read_known.nd rfl (Or.inl rfl)) pgs_nil)))
     (pss_one (ps_if (pt_cmpR op_ne (pe_setdT (hu_of hr) (pv 5) (pe_callTy call_tuple_of (by rfl) T.b_tuple (by decide +kernel) (pa_cons (pv 3) pa_nil)) (pv 4) ⟨rfl, rfl, rfl, rfl⟩) (pv 4) (by rfl))
     (pss_one (ps_never))
     pss_nil)))
     (pss_one (ps_ret (pv 5))))))), ?_⟩
  obtain ⟨k, o, a, rfl, ha, kq⟩ := h
  refine ⟨_, rfl, a, _, rfl, .inl (SqL.of ha), _, _, rfl, rfl, _, rfl, iteN (decide_eq_false (by decide)) ?_⟩
  refine ⟨_, rfl, a, rfl, ⟨_, SqL.of ha⟩, for_list (xs := []) (fun _ σ H2 => σ = [some (nv k), some (nv o), some (V.ref a), none, none, none] ∧ H2 = H) ⟨rfl, rfl⟩ (fun i σ H2 _ ⟨_, e⟩ => by rw [e]; exact SqL.of ha) (fun i x σ H2 hx => by simp at hx) ?_⟩
  rintro σ H2 ⟨rfl, rfl⟩
  intro d hd
  have e1 : Ex H2 (upd H2 d (.dK [])) := Ex.new hd
  refine ⟨_, rfl, a, rfl, ⟨_, SqL.of (e1 a _ ha)⟩, for_list (xs := []) (fun _ σ H3 => σ = [some (nv k), some (nv o), some (V.ref a), none, none, some (V.ref d)] ∧ H3 = upd H2 d (.dK [])) ⟨rfl, rfl⟩ (fun i σ H3 _ ⟨_, e⟩ => by rw [e]; exact SqL.of (e1 a _ ha)) (fun i x σ H3 hx => by simp at hx) ?_⟩
  rintro σ H3 ⟨rfl, rfl⟩
  exact ⟨_, rfl, kq _ d e1 hd upd_same⟩

theorem kind_ne {a b : Str} (h : ¬ a = b) : decide (V.str a = V.str b) = false := decide_eq_false fun z => h (V.str.inj z)
theorem ks1 : ¬ ("propose" : Str) = "ask" := by decide +kernel
theorem ks2 : ¬ ("full" : Str) = "ask" := by decide +kernel
theorem ks3 : ¬ ("done" : Str) = "ask" := by decide +kernel
/-- a step's tuple: its kind, the rest -/
theorem sv_kind {H : Hp} {lb : Addr → Nat} {v : V} {y : Mai.Stp} (h : SvAt H lb v y) : ∃ a xs, v = .ref a ∧ H a = some (.tup (.str (kindOf y) :: xs)) := by
  cases y with
  | ask w => obtain ⟨a, x, e, h1, _⟩ := h; exact ⟨a, _, e, h1⟩
  | propose m => obtain ⟨a, x, e, h1, _⟩ := h; exact ⟨a, _, e, h1⟩
  | full => obtain ⟨a, e, h1⟩ := h; exact ⟨a, _, e, h1⟩
  | done m => obtain ⟨a, x, e, h1, _⟩ := h; exact ⟨a, _, e, h1⟩
theorem kind_ask {y : Mai.Stp} (h : ∀ wd, y ≠ .ask wd) : ¬ kindOf y = "ask" := by
  cases y with
  | ask w => exact absurd rfl (h w)
  | propose m => exact ks1
  | full => exact ks2
  | done m => exact ks3
theorem ok_Asker_step {f : Addr} {fd : FuncData} (T : Tx K mg c)  (F : FnP K "step" "Asker.step" s_Asker_step f fd) : FnOk P w K mg base CX0 1 f fd p_Asker_step (sp_Asker_step P w K c) := by
  refine F.ok sc_Asker_step (fun vs H Q E h => by obtain ⟨_, _, _, _, _, _, _, rfl, _⟩ := h; rfl) (fun cdv A outer s H vs Q E hr h => ?_)
  refine ⟨_, PSs.nox (pss_cons (ps_if (pt_cmpR op_eq (pe_ix ix_tup (pe_fld (pv 0) rfl) pe_int (fun _ _ => rfl)) pe_str (by rfl))
     (pss_one (ps_ret (pe_tup (pa_cons pe_str (pa_cons (pe_callTy call_list_of (by rfl) T.b_list (by decide +kernel) (pa_cons (pe_ix ix_tup (pe_fld (pv 0) rfl) pe_int (fun _ _ => rfl)) pa_nil)) pa_nil)))))
     pss_nil)
     (pss_one (ps_ret (pe_fld (pv 0) rfl)))), ?_⟩
  obtain ⟨p, par, lb, A', s, sv, y, rfl, aa, hsv, k1, k2⟩ := h
  obtain ⟨a, xs, rfl, ha⟩ := sv_kind hsv
  refine ⟨_, rfl, fget T.fA (i := 12) aa.ob rfl rfl ⟨a, _, _, _, rfl, rfl, SqT.of ha, at_nat (j := 0) rfl rfl, rfl, _, rfl, ?_⟩⟩
  by_cases hy : ∃ wd, y = .ask wd
  · obtain ⟨wd, rfl⟩ := hy
    obtain ⟨a2, x, e, h1, l, rfl, hl, _⟩ := hsv
    cases e
    rw [ha] at h1
    cases h1
    refine iteP (d_t rfl) ⟨_, rfl, fget T.fA (i := 12) aa.ob rfl rfl ⟨a, _, _, _, rfl, rfl, SqT.of ha, at_nat (j := 1) rfl rfl, l, _, rfl, .inl (SqL.of hl), fun l2 hl2 => ⟨sz2, fun t ht => ?_⟩⟩⟩
    refine k1 wd rfl _ t l2 ((Ex.new hl2).trans (Ex.new ht)) (fresh_back (Ex.new hl2) ht) hl2 upd_same ?_
    rw [upd_ne (ne_of_none upd_same ht), upd_same]
  · have hn : ∀ wd, y ≠ .ask wd := fun wd e => hy ⟨wd, e⟩
    exact iteN (kind_ne (kind_ask hn)) ⟨_, rfl, fget T.fA (i := 12) aa.ob rfl rfl (k2 hn)⟩

theorem ok_Asker_need {f : Addr} {fd : FuncData} (T : Tx K mg c)  (F : FnP K "need" "Asker.need" s_Asker_need f fd) : FnOk P w K mg base CX0 1 f fd p_Asker_need (sp_Asker_need P w K c) := by
  refine F.ok sc_Asker_need (fun vs H Q E h => by obtain ⟨_, _, _, _, _, _, _, rfl, _⟩ := h; rfl) (fun cdv A outer s H vs Q E hr h => ?_)
  refine ⟨_, PSs.nox (pss_one (ps_if (pt_cmpR op_ne (pe_ix ix_tup (pe_fld (pv 0) rfl) pe_int (fun _ _ => rfl)) (pv 1) (by rfl))
     (pss_one (ps_never))
     pss_nil)), ?_⟩
  obtain ⟨p, par, lb, A', s, sv, y, rfl, aa, hsv, k⟩ := h
  obtain ⟨a, xs, rfl, ha⟩ := sv_kind hsv
  exact ⟨_, rfl, fget T.fA (i := 12) aa.ob rfl rfl ⟨a, _, _, _, rfl, rfl, SqT.of ha, at_nat (j := 0) rfl rfl, _, rfl, rfl, _, rfl, iteN (nd_f rfl) k⟩⟩

theorem ok_Asker_report {f : Addr} {fd : FuncData} (T : Tx K mg c)  (F : FnP K "report" "Asker.report" s_Asker_report f fd) : FnOk P w K mg base CX0 1 f fd p_Asker_report (sp_Asker_report P w K c) := by
  refine F.ok sc_Asker_report (fun vs H Q E h => by obtain ⟨_, _, _, _, _, _, rfl, _⟩ := h; rfl) (fun cdv A outer s H vs Q E hr h => ?_)
  refine ⟨_, PSs.nox (pss_one (ps_ret (pe_callTy call_tuple_of (by rfl) T.b_tuple (by decide +kernel) (pa_cons (pe_fld (pv 0) rfl) pa_nil)))), ?_⟩
  obtain ⟨p, par, lb, A', s, sv, rfl, aa, kq⟩ := h
  exact ⟨_, rfl, fget T.fA (i := 6) aa.ob rfl rfl ⟨A'.n, _, rfl, .inl ⟨SqL.of aa.b.ct, fun l hl => kq _ l (Ex.new hl) upd_same⟩⟩⟩

theorem ok_Asker_accept {f : Addr} {fd : FuncData} (T : Tx K mg c) (D_Asker_need : Mtd P w K mg base CX0 1 c.Asker "need" p_Asker_need (sp_Asker_need P w K c)) (F : FnP K "accept" "Asker.accept" s_Asker_accept f fd) : FnOk P w K mg base CX0 2 f fd p_Asker_accept (sp_Asker_accept P w K c) := by
  refine F.ok sc_Asker_accept (fun vs H Q E h => by obtain ⟨_, _, _, _, _, _, _, rfl, _⟩ := h; rfl) (fun cdv A outer s H vs Q E hr h => ?_)
  refine ⟨_, PSs.nox (pss_cons (ps_expr (pe_m (pv 0) T.k_Asker D_Asker_need (hr.mono (by decide)) (pa_cons pe_str pa_nil)))
     (pss_cons (ps_expr (pe_bm PySem.F.plainAttrs_list PySem.F.slot_list_append PySem.F.type_list_append mt_append (pe_fld (pv 0) rfl) (pa_cons pe_str pa_nil)))
     (pss_one (ps_fld (pv 0) (pe_tup (pa_cons pe_str (pa_cons (pe_ix ix_tup (pe_fld (pv 0) rfl) pe_int (fun _ _ => rfl)) pa_nil))) rfl)))), ?_⟩
  obtain ⟨p, par, lb, A', s, sv, m, rfl, lbo, aa, hsv, hnr, kq⟩ := h
  refine ⟨_, rfl, p, A'.dx, _, rfl, aa.ob, zip_none (by decide +kernel), p, par, lb, A', s, sv, .propose m, rfl, aa, hsv, ?_⟩
  obtain ⟨us, hr', hul⟩ := aa.b.rp
  refine ⟨_, rfl, fget T.fA (i := 5) aa.ob rfl rfl ⟨.inl ⟨rfl, _, SqL.of hr'⟩, A'.r, _, _, rfl, rfl, hr', szl (by omega), ?_⟩⟩
  have st1 : St [4] lb lb H _ := St.upd (u := .lst (us ++ [.str "+"])) lbo hr' aa.b.lr (by decide) fun z => z
  have hr1 : upd H A'.r (.lst (us ++ [.str "+"])) A'.r = some (.lst (us ++ [.str "+"])) := upd_same
  have ob1 := st1.at aa.ob aa.lp
  have hsv1 := hsv.keep st1
  obtain ⟨q1, q2⟩ := qu_keep aa.qu aa.lq st1
  have tb1 := tab_keep aa.b.tb aa.b.lt aa.b.lS aa.b.lE aa.b.lR st1
  generalize upd H A'.r (.lst (us ++ [.str "+"])) = H1 at *
  obtain ⟨a, x, rfl, ha, hx⟩ := hsv1
  refine ⟨_, rfl, fget T.fA (i := 12) ob1 rfl rfl ⟨a, _, _, _, rfl, rfl, SqT.of ha, at_nat (j := 1) rfl rfl, sz2, fun t ht => ⟨_, rfl, fput T.fA (i := 12) ((Ex.new ht) p _ ob1) rfl ?_⟩⟩⟩
  have st2 : St [] lb lb H1 _ := St.ex st1.ok (Ex.new (o := HO.tup [.str "done", x]) ht)
  have hx2 := hx.keep st2.tk
  have ht2 : upd H1 t (.tup [.str "done", x]) t = some (.tup [.str "done", x]) := upd_same
  have ob2 := st2.at ob1 aa.lp
  obtain ⟨q3, q4⟩ := qu_keep q1 q2 st2
  have tb2 := tab_keep tb1 aa.b.lt aa.b.lS aa.b.lE aa.b.lR st2
  have hr2 := st2.at hr1 aa.b.lr
  generalize upd H1 t (.tup [.str "done", x]) = H2 at *
  have st3 : St [1] lb lb H2 _ := St.upd (u := .ins c.Asker A'.dx (putF "_step" (.ref t) (fl_Asker.zip (vals par A' [.ref a])))) st2.ok ob2 aa.lp (by decide) fun z => z
  have st03 := (st1.trans st2).trans st3
  obtain ⟨q5, q6⟩ := qu_keep q3 q4 st3
  refine kq _ lb { A' with nr := A'.nr + 1 } (.ref t) (st03.mono (by decide) LLz) ⟨?_, aa.lp, ⟨st03.at aa.b.kn aa.b.ld, aa.b.ld, ⟨_, st3.at hr2 aa.b.lr, by rw [List.length_append, hul]; rfl⟩, aa.b.lr, st03.at aa.b.ct aa.b.ln, aa.b.ln, tab_keep tb2 aa.b.lt aa.b.lS aa.b.lE aa.b.lR st3, aa.b.lt, aa.b.lS, aa.b.lE, aa.b.lR⟩, aa.vm.keep st03.tk, aa.vsh.keep st03.tk, aa.vse.keep st03, q5, q6⟩ ⟨t, x, rfl, st3.tk.at ht2, hx2.keep st3.tk⟩ rfl
  rw [ask_put (i := 12) rfl (by simp [vals])]
  rfl
end
end MW
/-! ## P7 -/
namespace MW
open PySem PySem.Spec PyProof.Rows L2 Evl
section
variable {P : Program} {w : World} {K : PySem.W.Frag} {mg : Str → Option Value} {base : Heap} {c : Cs}
theorem digs9 {n : Nat} (h : n ≤ 300) : Mai.digs n ≤ 9 := Mai.digs300 h
theorem bd_ws {P : Mai.Par} {N : Nat} {s : Mai.AS} (b : Mai.Bd P N s) (m : P.most ≤ 30) (k : P.k ≤ 4) : s.ws.length ≤ 6000 := by
  have h1 := b.ws
  have h2 : Mai.nn P N ≤ 31 := by unfold Mai.nn; omega
  have h3 := digs9 b.c3
  have h4 : Mai.nn P N * Mai.nn P N ≤ 31 * 31 := Nat.mul_le_mul h2 h2
  have h5 : Mai.nn P N * Mai.nn P N * (P.k + 1) ≤ 31 * 31 * 5 := Nat.mul_le_mul h4 (by omega)
  have h6 : Mai.nn P N * (Mai.digs s.c3 + 2) ≤ 31 * 11 := Nat.mul_le_mul h2 (by omega)
  omega
theorem kn_map {ws : List (List Nat)} {out : List Nat → Nat} : (kd nv (ws.map fun w => (w, out w))).length = ws.length := by unfold kd; rw [List.length_map, List.length_map]
theorem kn_put {ws : List (List Nat)} {out : List Nat → Nat} {w : List Nat} (h : w ∉ ws) : putK (kd nv (ws.map fun w => (w, out w))) (wk w) (nv (out w)) = kd nv ((ws ++ [w]).map fun w => (w, out w)) := by
  rw [kd_put (f := nv) (x := out w) fun p hp e => ?_, List.map_append]
  · rfl
  · obtain ⟨y, hy, rfl⟩ := List.mem_map.mp hp
    exact h (by rw [← e]; exact hy)
/-- the asker's object with another step -/
theorem ask_step {c : Cs} {par : Mai.Par} {H : Hp} {lb : Addr → Nat} {p : Addr} {A : AD} {s : Mai.AS} {rest : List V} {v : V} (lbo : Lb H lb) (aa : AskAt c par H lb p A s rest) (hr : rest.length ≤ 1) :
    St [1] lb lb H (upd H p (.ins c.Asker A.dx (putF "_step" v (fl_Asker.zip (vals par A rest))))) ∧ AskAt c par (upd H p (.ins c.Asker A.dx (putF "_step" v (fl_Asker.zip (vals par A rest))))) lb p A s [v] := by
  have st : St [1] lb lb H (upd H p (.ins c.Asker A.dx (putF "_step" v (fl_Asker.zip (vals par A rest))))) := St.upd lbo aa.ob aa.lp (by decide) fun z => z
  obtain ⟨q5, q6⟩ := qu_keep aa.qu aa.lq st
  refine ⟨st, ?_, aa.lp, aa.b.keep st, aa.vm.keep st.tk, aa.vsh.keep st.tk, aa.vse.keep st, q5, q6⟩
  cases rest with
  | nil =>
    rw [upd_same, zip_end nd_Asker (i := 12) rfl (by simp [vals])]
    rfl
  | cons a r =>
    have : r = [] := by
      cases r with
      | nil => rfl
      | cons b r => simp at hr
    subst this
    rw [ask_put (i := 12) rfl (by simp [vals])]
    rfl
theorem ok_Asker_answer {f : Addr} {fd : FuncData} (T : Tx K mg c) (D_Asker_need : Mtd P w K mg base CX0 1 c.Asker "need" p_Asker_need (sp_Asker_need P w K c)) (D_Asker__next_step : Mtd P w K mg base CX0 6 c.Asker "_next_step" p_Asker__next_step (sp_Asker__next_step P w K c)) (F : FnP K "answer" "Asker.answer" s_Asker_answer f fd) : FnOk P w K mg base CX0 7 f fd p_Asker_answer (sp_Asker_answer P w K c) := by
  refine F.ok sc_Asker_answer (fun vs H Q E h => by obtain ⟨_, _, _, _, _, _, _, _, rfl, _⟩ := h; rfl) (fun cdv A outer s H vs Q E hr h => ?_)
  refine ⟨_, PSs.nox (pss_cons (ps_expr (pe_m (pv 0) T.k_Asker D_Asker_need (hr.mono (by decide)) (pa_cons pe_str pa_nil)))
     (pss_cons (ps_if (pt_not (pt_chain op_le op_lt pe_int (pv 1) (pe_fld (pv 0) rfl)))
     (pss_cons (ps_expr (pe_bm PySem.F.plainAttrs_list PySem.F.slot_list_append PySem.F.type_list_append mt_append (pe_fld (pv 0) rfl) (pa_cons pe_str pa_nil)))
     (pss_cons (ps_fld (pv 0) (pe_tup (pa_cons pe_str (pa_cons pe_str pa_nil))) rfl)
     (pss_one (ps_retN))))
     pss_nil)
     (pss_cons (ps_set (i := 2) sc_Asker_answer.nd rfl (Or.inl rfl) (pe_callTy call_tuple_of (by rfl) T.b_tuple (by decide +kernel) (pa_cons (pe_ix ix_tup (pe_fld (pv 0) rfl) pe_int (fun _ _ => rfl)) pa_nil)))
     (pss_cons (ps_dput (hu_of hr) (pe_fld (pv 0) rfl) (pv 2) (pv 1) rfl)
     (pss_cons (ps_augS (pe_fld (pv 0) rfl) pe_int pget_list pe_int ip_add set_list)
     (pss_cons (ps_augS (pe_fld (pv 0) rfl) pe_int pget_list (pe_callB call_len_seq (by rfl) T.b_len PySem.boot_len (pa_cons (pv 2) pa_nil)) ip_add set_list)
     (pss_cons (ps_expr (pe_bm PySem.F.plainAttrs_list PySem.F.slot_list_append PySem.F.type_list_append mt_append (pe_fld (pv 0) rfl) (pa_cons (pe_joined (.cons pe_str (.cons (pe_fmt (pv 1)) .nil))) pa_nil)))
     (pss_one (ps_fld (pv 0) (pe_m0 (pv 0) T.k_Asker D_Asker__next_step (hr.mono (by decide))) rfl))))))))), ?_⟩
  obtain ⟨p, par, sec, lb, A', s, sv, wd, rfl, lbo, aa, hsv, ctx, hR, hnr, kq⟩ := h
  obtain ⟨bd, hnw, hok, hlen, m, hW⟩ := hR
  obtain ⟨k1, k4, o1, o6, m30, hout⟩ := ctx_k ctx
  have hws := bd_ws bd m30 k4
  have hlt := hout wd hok
  refine ⟨_, rfl, p, A'.dx, _, rfl, aa.ob, zip_none (by decide +kernel), p, par, lb, A', s, sv, .ask wd, rfl, aa, hsv, ?_⟩
  refine ⟨_, rfl, _, _, rfl, rfl, _, rfl, iteP (decide_eq_true (by omega)) ⟨_, rfl, fget T.fA (i := 1) aa.ob rfl rfl ⟨_, _, rfl, rfl, _, rfl, iteN (nd_f (by omega)) ?_⟩⟩⟩
  obtain ⟨a, x, rfl, ha, l, rfl, hl, hl20⟩ := hsv
  refine ⟨_, rfl, fget T.fA (i := 12) aa.ob rfl rfl ⟨a, _, _, _, rfl, rfl, SqT.of ha, at_nat (j := 1) rfl rfl, l, _, rfl, .inl ⟨SqL.of hl, fun tw htw => ?_⟩⟩⟩
  have st1 : St [] lb lb H _ := St.ex lbo (Ex.new (o := HO.tup (nvs wd)) htw)
  have aa1 := aa.keep st1
  have htw1 : upd H tw (.tup (nvs wd)) tw = some (.tup (nvs wd)) := upd_same
  generalize upd H tw (.tup (nvs wd)) = H1 at *
  -- the word and its output are known
  refine ⟨_, rfl, _, rfl, fget T.fA (i := 4) aa1.ob rfl rfl ⟨_, rfl, A'.d, _, rfl, .inr ⟨_, wk wd, tw, aa1.b.kn, rfl, by rw [wk_kV]; exact htw1, by rw [kn_map]; exact szl (by omega), rfl⟩, ?_⟩⟩
  have st2 : St [3] lb lb H1 _ := St.upd (u := .dT (putK (kd nv (s.ws.map fun w => (w, par.out w))) (wk wd) (nv (par.out wd)))) st1.ok aa1.b.kn aa1.b.ld (by decide) fun z => z
  have hkn2 : KnAt (upd H1 A'.d (.dT (putK (kd nv (s.ws.map fun w => (w, par.out w))) (wk wd) (nv (par.out wd))))) A'.d (s.ws ++ [wd]) par.out := by
    unfold KnAt
    rw [upd_same, kn_put hnw]
  obtain ⟨us, hr0, hul⟩ := aa1.b.rp
  have ob2 := st2.at aa1.ob aa1.lp
  have hr2 := st2.at hr0 aa1.b.lr
  have hct2 := st2.at aa1.b.ct aa1.b.ln
  have htw2 := st2.tk.at htw1
  generalize upd H1 A'.d (.dT (putK (kd nv (s.ws.map fun w => (w, par.out w))) (wk wd) (nv (par.out wd)))) = H2 at *
  have e1 : nv (s.ws.length + 1) = V.int ((s.ws.length : Int) + 1) := rfl
  have e2 : nv ((s.ws.map List.length).sum + wd.length) = V.int (((s.ws.map List.length).sum : Int) + (wd.length : Int)) := congrArg V.int (by omega)
  refine ⟨_, rfl, fget T.fA (i := 6) ob2 rfl rfl ⟨A'.n, _, 0, _, rfl, rfl, SqL.of hct2, at_nat (j := 0) rfl rfl, _, _, rfl, rfl, A'.n, _, 0, 0, rfl, rfl, hct2, rfl, ?_⟩⟩
  have st3 : St [5] lb lb H2 _ := St.upd (u := .lst ([nv s.ws.length, nv (s.ws.map List.length).sum, nv s.c2, nv s.c3].set 0 (.int ((s.ws.length : Int) + 1)))) st2.ok hct2 aa1.b.ln (by decide) fun z => z
  have hct3 : upd H2 A'.n (.lst ([nv s.ws.length, nv (s.ws.map List.length).sum, nv s.c2, nv s.c3].set 0 (.int ((s.ws.length : Int) + 1)))) A'.n = some (.lst [.int ((s.ws.length : Int) + 1), nv (s.ws.map List.length).sum, nv s.c2, nv s.c3]) := upd_same
  have ob3 := st3.at ob2 aa1.lp
  have htw3 := st3.tk.at htw2
  refine ⟨_, rfl, fget T.fA (i := 6) ob3 rfl rfl ⟨A'.n, _, 1, _, rfl, rfl, SqL.of hct3, at_nat (j := 1) rfl rfl, _, rfl, tw, _, rfl, .inr (SqT.of htw3), _, _, rfl, rfl, A'.n, _, 1, 1, rfl, rfl, hct3, rfl, ?_⟩⟩
  have st4 : St [5] lb lb _ _ := St.upd (u := .lst ([.int ((s.ws.length : Int) + 1), nv (s.ws.map List.length).sum, nv s.c2, nv s.c3].set 1 (.int (((s.ws.map List.length).sum : Int) + ((nvs wd).length : Int))))) st3.ok hct3 aa1.b.ln (by decide) fun z => z
  have ob4 := st4.at ob3 aa1.lp
  have hr4 := st4.at (st3.at hr2 aa1.b.lr) aa1.b.lr
  have ho6 : par.out wd < 6 := by omega
  have hjl : (Str.empty ++ Str.ofString "=").length = 1 := by decide +kernel
  refine ⟨_, rfl, fget T.fA (i := 5) ob4 rfl rfl ⟨.inl ⟨rfl, _, SqL.of hr4⟩, Str.ofString "=", rfl, by rw [hjl]; decide, _, rfl, .inr ⟨_, rfl, dgS_log ho6, dgS (par.out wd), rfl, ?_, A'.r, _, _, rfl, rfl, hr4, szl (by omega), ?_⟩⟩⟩
  · rw [Str.length_append, hjl, dgS_len ho6]
    decide
  have st5 : St [4] lb lb _ _ := St.upd (u := .lst (us ++ [.str (Str.empty ++ Str.ofString "=" ++ dgS (par.out wd))])) st4.ok hr4 aa1.b.lr (by decide) fun z => z
  have st15 := ((st2.trans st3).trans st4).trans st5
  have st05 := st1.trans st15
  obtain ⟨q1, q2⟩ := qu_keep aa1.qu aa1.lq st15
  have hct4 := st5.at (show upd (upd H2 A'.n _) A'.n _ A'.n = some (.lst [.int ((s.ws.length : Int) + 1), .int (((s.ws.map List.length).sum : Int) + ((nvs wd).length : Int)), nv s.c2, nv s.c3]) from upd_same) aa1.b.ln
  have aa5 : AskAt c par _ lb p { A' with nr := A'.nr + 1 } { s with ws := s.ws ++ [wd] } [.ref a] :=
    ⟨st5.at ob4 aa1.lp, aa1.lp, ⟨(st3.trans (st4.trans st5)).at hkn2 aa1.b.ld, aa1.b.ld, ⟨_, upd_same, by rw [List.length_append, hul]; rfl⟩, aa1.b.lr, by rw [hct4, List.length_append, List.map_append, List.sum_append, nvs_len]; simp [nv], aa1.b.ln, tab_keep aa1.b.tb aa1.b.lt aa1.b.lS aa1.b.lE aa1.b.lR st15, aa1.b.lt, aa1.b.lS, aa1.b.lE, aa1.b.lR⟩, aa1.vm.keep st15.tk, aa1.vsh.keep st15.tk, aa1.vse.keep st15, q1, q2⟩
  refine ⟨_, rfl, p, A'.dx, _, rfl, aa5.ob, zip_none (by decide +kernel), p, par, sec, lb, _, _, _, m, rfl, st5.ok, aa5, ctx, hW, fun v H6 lb6 A6 s6 y st6 aa6 nr6 sv6 R6 ws6 c36 => ⟨_, rfl, fput T.fA (i := 12) aa6.ob rfl ?_⟩⟩
  obtain ⟨st7, aa7⟩ := ask_step (v := v) st6.ok aa6 (by simp)
  exact kq _ lb6 A6 v s6 y (((st05.trans st6).trans st7).mono (by decide) LLz) aa7 (sv6.keep st7) R6 ws6 c36 nr6

theorem ok_Asker_show {f : Addr} {fd : FuncData} (T : Tx K mg c) (D_Asker_need : Mtd P w K mg base CX0 1 c.Asker "need" p_Asker_need (sp_Asker_need P w K c)) (D_is_word_asker : Dfn P w K mg base CX0 1 "is_word_asker" p_is_word_asker (sp_is_word_asker P w K c)) (D_digits_of : Dfn P w K mg base CX0 1 "digits_of" p_digits_of (sp_digits_of P w K c)) (D_Asker__next_step : Mtd P w K mg base CX0 6 c.Asker "_next_step" p_Asker__next_step (sp_Asker__next_step P w K c)) (F : FnP K "show" "Asker.show" s_Asker_show f fd) : FnOk P w K mg base CX0 7 f fd p_Asker_show (sp_Asker_show P w K c) := by
  refine F.ok sc_Asker_show (fun vs H Q E h => by obtain ⟨_, _, _, _, _, _, _, _, _, _, rfl, _⟩ := h; rfl) (fun cdv A outer s H vs Q E hr h => ?_)
  refine ⟨_, PSs.nox (pss_cons (ps_expr (pe_m (pv 0) T.k_Asker D_Asker_need (hr.mono (by decide)) (pa_cons pe_str pa_nil)))
     (pss_cons (ps_if (pt_not (pt_val (pe_c D_is_word_asker (hr.mono (by decide)) (pa_cons (pv 1) (pa_cons (pe_fld (pv 0) rfl) (pa_cons (pe_gi rfl T.c_MAX_SHOWN) pa_nil))))))
     (pss_cons (ps_expr (pe_bm PySem.F.plainAttrs_list PySem.F.slot_list_append PySem.F.type_list_append mt_append (pe_fld (pv 0) rfl) (pa_cons pe_str pa_nil)))
     (pss_cons (ps_fld (pv 0) (pe_tup (pa_cons pe_str (pa_cons pe_str pa_nil))) rfl)
     (pss_one (ps_retN))))
     pss_nil)
     (pss_cons (ps_asg (pe_callB (call_max2 rfl) (by rfl) T.b_max (by decide +kernel) (pa_cons (pe_ix ix_list (pe_fld (pv 0) rfl) pe_int (fun _ _ => rfl)) (pa_cons (pe_callB call_len_seq (by rfl) T.b_len PySem.boot_len (pa_cons (pv 1) pa_nil)) pa_nil))) (pg_sub (pe_fld (pv 0) rfl) pe_int set_list))
     (pss_cons (ps_expr (pe_bm PySem.F.plainAttrs_list PySem.F.slot_list_append PySem.F.type_list_append mt_append (pe_fld (pv 0) rfl) (pa_cons (pe_op op_add_str pe_str (pe_c D_digits_of (hr.mono (by decide)) (pa_cons (pv 1) pa_nil))) pa_nil)))
     (pss_cons (ps_fld (pv 0) (pe_callTy call_tuple_of (by rfl) T.b_tuple (by decide +kernel) (pa_cons (pv 1) pa_nil)) rfl)
     (pss_one (ps_fld (pv 0) (pe_m0 (pv 0) T.k_Asker D_Asker__next_step (hr.mono (by decide))) rfl))))))), ?_⟩
  obtain ⟨p, wv, par, sec, lb, A', s, sv, mm, wd, rfl, lbo, aa, hsv, ctx, hR, hnr, ⟨al, rfl, hal, hal0⟩, hok, hlen, hne, kq⟩ := h
  obtain ⟨bd, wfM, hpm, hSm, hgo⟩ := hR
  obtain ⟨k1, k4, o1, o6, m30, hout⟩ := ctx_k ctx
  obtain ⟨m, hW⟩ := hgo wd hok hlen hne
  refine ⟨_, rfl, p, A'.dx, _, rfl, aa.ob, zip_none (by decide +kernel), p, par, lb, A', s, sv, .propose mm, rfl, aa, hsv, ?_⟩
  refine ⟨_, rfl, _, rfl, fget T.fA (i := 0) aa.ob rfl rfl ⟨.ref al, par.k, 300, wd, rfl, ⟨al, rfl, hal⟩, hok, hlen, by omega, fun H1 e1 => ⟨_, rfl, iteN rfl ?_⟩⟩⟩
  have st1 : St [] lb lb H H1 := St.ex lbo e1
  have aa1 := aa.keep st1
  have hal1 := e1 al _ hal
  have hsv1 := hsv.keep st1
  obtain ⟨a, x, rfl, ha, hx⟩ := hsv1
  refine ⟨_, rfl, fget T.fA (i := 6) aa1.ob rfl rfl ⟨A'.n, _, 3, nv s.c3, rfl, rfl, SqL.of aa1.b.ct, at_nat (j := 3) rfl rfl, _, rfl, al, _, rfl, .inl (SqL.of hal1), _, _, rfl, _, rfl, fget T.fA (i := 6) aa1.ob rfl rfl ⟨A'.n, _, 3, 3, rfl, rfl, aa1.b.ct, rfl, ?_⟩⟩⟩
  have emax : (if ((nvs wd).length : Int) > (s.c3 : Int) then ((nvs wd).length : Int) else (s.c3 : Int)) = ((max s.c3 wd.length : Nat) : Int) := by
    rw [nvs_len]
    split <;> omega
  rw [emax]
  have st2 : St [5] lb lb H1 _ := St.upd (u := .lst ([nv s.ws.length, nv (s.ws.map List.length).sum, nv s.c2, nv s.c3].set 3 (.int ((max s.c3 wd.length : Nat) : Int)))) st1.ok aa1.b.ct aa1.b.ln (by decide) fun z => z
  have hct2 : upd H1 A'.n (.lst ([nv s.ws.length, nv (s.ws.map List.length).sum, nv s.c2, nv s.c3].set 3 (.int ((max s.c3 wd.length : Nat) : Int)))) A'.n = some (.lst [nv s.ws.length, nv (s.ws.map List.length).sum, nv s.c2, nv (max s.c3 wd.length)]) := upd_same
  obtain ⟨us, hr0, hul⟩ := aa1.b.rp
  have ob2 := st2.at aa1.ob aa1.lp
  have hr2 := st2.at hr0 aa1.b.lr
  have hal2 : upd H1 A'.n (.lst ([nv s.ws.length, nv (s.ws.map List.length).sum, nv s.c2, nv s.c3].set 3 (.int ((max s.c3 wd.length : Nat) : Int)))) al = some (.lst (nvs wd)) := by
    rw [upd_ne fun z => hal0 (by rw [z, aa1.b.ln]; decide)]
    exact hal1
  refine ⟨_, rfl, fget T.fA (i := 5) ob2 rfl rfl ⟨.inl ⟨rfl, _, SqL.of hr2⟩, _, rfl, .ref al, wd, rfl, ⟨al, rfl, hal2⟩, fun q hq => Nat.lt_of_lt_of_le (hok q hq) k4, hlen, fun H3 z e3 hz => ?_⟩⟩
  have st3 : St [] lb lb _ H3 := St.ex st2.ok e3
  have hr3 := st3.at hr2 aa1.b.lr
  have ez : (Str.ofString "-").length = 1 := by decide +kernel
  refine ⟨_, _, rfl, rfl, by rw [ez]; exact szle (by omega), A'.r, us, _, rfl, rfl, hr3, szl (by omega), ?_⟩
  have st4 : St [4] lb lb H3 _ := St.upd (u := .lst (us ++ [.str (Str.ofString "-" ++ z)])) st3.ok hr3 aa1.b.lr (by decide) fun z => z
  have hr4 : upd H3 A'.r (.lst (us ++ [.str (Str.ofString "-" ++ z)])) A'.r = some (.lst (us ++ [.str (Str.ofString "-" ++ z)])) := upd_same
  have hal4 : upd H3 A'.r (.lst (us ++ [.str (Str.ofString "-" ++ z)])) al = some (.lst (nvs wd)) := by
    rw [upd_ne fun z => hal0 (by rw [z, aa1.b.lr]; decide)]
    exact e3 al _ hal2
  have st24 := (st2.trans st3).trans st4
  have ob4 := st24.at aa1.ob aa1.lp
  have hct4 := (st3.trans st4).at hct2 aa1.b.ln
  refine ⟨_, rfl, al, _, rfl, .inl ⟨SqL.of hal4, fun tw htw => ⟨_, rfl, fput T.fA (i := 9) ((Ex.new htw) p _ ob4) rfl ?_⟩⟩⟩
  have st5 : St [] lb lb _ _ := St.ex st4.ok (Ex.new (o := HO.tup (nvs wd)) htw)
  have htw5 : upd (upd H3 A'.r (.lst (us ++ [.str (Str.ofString "-" ++ z)]))) tw (.tup (nvs wd)) tw = some (.tup (nvs wd)) := upd_same
  have ob5 := st5.at ob4 aa1.lp
  have hct5 := st5.at hct4 aa1.b.ln
  have hr5 := st5.at hr4 aa1.b.lr
  have st25 := st24.trans st5
  have st6 : St [1] lb lb _ _ := St.upd (u := .ins c.Asker A'.dx (putF "_shown" (.ref tw) (fl_Asker.zip (vals par A' [.ref a])))) st5.ok ob5 aa1.lp (by decide) fun z => z
  have st26 := st25.trans st6
  obtain ⟨q1, q2⟩ := qu_keep aa1.qu aa1.lq st26
  have aa6 : AskAt c par _ lb p { A' with vsh := .ref tw, nr := A'.nr + 1 } { s with shown := some wd, c3 := max s.c3 wd.length } [.ref a] :=
    ⟨by rw [ask_put (i := 9) rfl (by simp [vals])]; rfl, aa1.lp, ⟨st26.at aa1.b.kn aa1.b.ld, aa1.b.ld, ⟨_, st6.at hr5 aa1.b.lr, by rw [List.length_append, hul]; rfl⟩, aa1.b.lr, st6.at hct5 aa1.b.ln, aa1.b.ln, tab_keep aa1.b.tb aa1.b.lt aa1.b.lS aa1.b.lE aa1.b.lR st26, aa1.b.lt, aa1.b.lS, aa1.b.lE, aa1.b.lR⟩, aa1.vm.keep st26.tk, ⟨tw, rfl, st6.tk.at htw5⟩, aa1.vse.keep st26, q1, q2⟩
  refine ⟨_, rfl, p, A'.dx, _, rfl, aa6.ob, zip_none (by decide +kernel), p, par, sec, lb, _, _, _, m, rfl, st6.ok, aa6, ctx, hW, fun v H7 lb7 A7 s7 y st7 aa7 nr7 sv7 R7 ws7 c37 => ⟨_, rfl, fput T.fA (i := 12) aa7.ob rfl ?_⟩⟩
  obtain ⟨st8, aa8⟩ := ask_step (v := v) st7.ok aa7 (by simp)
  exact kq _ lb7 A7 v s7 y ((((st1.trans st26).trans st7).trans st8).mono (by decide) LLz) aa8 (sv7.keep st8) R7 ws7 c37 nr7

theorem init_put {c : Cs} {H : Hp} {lb : Addr → Nat} {p dx : Addr} {n : Nat} {f : Str} {v : V} {vs : List V} (ok : Lb H lb) (ob : H p = some (.ins c.Asker dx (fl_Asker.zip vs))) (lp : lb p = 1) (hf : fl_Asker[n]? = some f) (hn : n = vs.length) :
    St [1] lb lb H (upd H p (.ins c.Asker dx (putF f v (fl_Asker.zip vs)))) ∧ upd H p (.ins c.Asker dx (putF f v (fl_Asker.zip vs))) p = some (.ins c.Asker dx (fl_Asker.zip (vs ++ [v]))) :=
  ⟨St.upd ok ob lp (by decide) fun z => z, by rw [upd_same, zip_end nd_Asker hf hn]⟩
theorem init_ex {H H' : Hp} {lb : Addr → Nat} {q : Addr} {o : HO} (n : Nat) (ok : Lb H lb) (e : Ex H H') (h : H q = none) (h1 : H' q = some o) (ho : ¬ IsT o) : ∃ lb', St [] lb lb' H H' ∧ lb' q = n :=
  ⟨relab lb H fun a => if a = q then n else 0, St.relab ok e fun a _ hg => by
    by_cases c1 : a = q
    · rw [c1]; exact ⟨_, h1, ho⟩
    · rw [if_neg c1] at hg; exact absurd rfl hg, by rw [relab_new h, if_pos rfl]⟩
theorem init_new {H : Hp} {lb : Addr → Nat} {q : Addr} {o : HO} (n : Nat) (ok : Lb H lb) (h : H q = none) (ho : ¬ IsT o) : ∃ lb', St [] lb lb' H (upd H q o) ∧ lb' q = n ∧ upd H q o q = some o := by
  obtain ⟨lb', h1, h2⟩ := init_ex n ok (Ex.new h) h upd_same ho
  exact ⟨lb', h1, h2, upd_same⟩
theorem make_ex {H : Hp} {x dx : Addr} {o : HO} (nx : H x = none) (ndx : H dx = none) (nex : dx ≠ x) : Ex H (upd (upd H dx (.own x)) x o) := (Ex.new (o := HO.own x) ndx).trans (Ex.new (by rw [upd_ne nex.symm]; exact nx))
theorem ex_but {H H1 H2 : Hp} {x : Addr} (e : Ex H H1) (b : But (fun a => a = x) H1 H2) (nx : H x = none) : Ex H H2 := fun a o ha => b a o (ne_of_none ha nx) (e a o ha)
theorem init_four {H H' : Hp} {lb : Addr → Nat} {x a b d : Addr} {o1 o2 o3 o4 : HO} (ok : Lb H lb) (e : Ex H H') (hx : H x = none) (ha : H a = none) (hb : H b = none) (hd : H d = none) (gx : H' x = some o1) (ga : H' a = some o2) (gb : H' b = some o3) (gd : H' d = some o4)
    (t1 : ¬ IsT o1) (t2 : ¬ IsT o2) (t3 : ¬ IsT o3) (t4 : ¬ IsT o4) (n1 : x ≠ a) (n2 : x ≠ b) (n3 : x ≠ d) (n4 : a ≠ b) (n5 : a ≠ d) (n6 : d ≠ b) : ∃ lb', St [] lb lb' H H' ∧ lb' x = 6 ∧ lb' a = 7 ∧ lb' b = 8 ∧ lb' d = 9 := by
  refine ⟨relab lb H fun z => if z = x then 6 else if z = a then 7 else if z = b then 8 else if z = d then 9 else 0, St.relab ok e fun z _ hq => ?_, (relab_new hx).trans (if_pos rfl), (relab_new ha).trans (by rw [if_neg n1.symm, if_pos rfl]), (relab_new hb).trans (by rw [if_neg n2.symm, if_neg n4.symm, if_pos rfl]), (relab_new hd).trans (by rw [if_neg n3.symm, if_neg n5.symm, if_neg n6, if_pos rfl])⟩
  by_cases c1 : z = x
  · rw [c1]; exact ⟨_, gx, t1⟩
  rw [if_neg c1] at hq
  by_cases c2 : z = a
  · rw [c2]; exact ⟨_, ga, t2⟩
  rw [if_neg c2] at hq
  by_cases c3 : z = b
  · rw [c3]; exact ⟨_, gb, t3⟩
  rw [if_neg c3] at hq
  by_cases c4 : z = d
  · rw [c4]; exact ⟨_, gd, t4⟩
  rw [if_neg c4] at hq
  exact absurd rfl hq
theorem ok_Asker_init {f : Addr} {fd : FuncData} (T : Tx K mg c) (D_read_known : Dfn P w K mg base CX0 2 "read_known" p_read_known (sp_read_known P w K c)) (D_Table_init : Mkd P w K mg base CX0 2 "Table" c.Table p_Table_init (sp_Table_init P w K c)) (D_Asker__next_step : Mtd P w K mg base CX0 6 c.Asker "_next_step" p_Asker__next_step (sp_Asker__next_step P w K c)) (F : FnP K "__init__" "Asker.__init__" s_Asker_init f fd) : FnOk P w K mg base CX0 7 f fd p_Asker_init (sp_Asker_init P w K c) := by
  refine F.ok sc_Asker_init (fun vs H Q E h => by obtain ⟨_, _, _, _, _, _, rfl, _⟩ := h; rfl) (fun cdv A outer s H vs Q E hr h => ?_)
  refine ⟨_, PSs.nox (pss_cons (ps_if (PW.pt (pw_or (pt_not (pt_chain op_le op_le pe_int (pv 1) (pe_gi rfl T.c_MAX_LETTERS))) (pw_or (pt_not (pt_chain op_le op_le pe_int (pv 2) (pe_gi rfl T.c_MAX_OUTS))) (pw_or1 (pt_not (pt_chain op_le op_le pe_int (pv 3) (pe_gi rfl T.c_MAX_STATES)))))))
     (pss_one (ps_never))
     pss_nil)
     (pss_cons (ps_fld (pv 0) (pv 1) rfl)
     (pss_cons (ps_fld (pv 0) (pv 2) rfl)
     (pss_cons (ps_fld (pv 0) (pv 3) rfl)
     (pss_cons (ps_fld (pv 0) (pe_c D_read_known (hr.mono (by decide)) (pa_cons (pv 1) (pa_cons (pv 2) (pa_cons (pv 4) pa_nil)))) rfl)
     (pss_cons (ps_fld (pv 0) (pe_callTy call_dict0 (by rfl) T.b_dict (by decide +kernel) (pa_cons (pe_fld (pv 0) rfl) pa_nil)) rfl)
     (pss_cons (ps_fld (pv 0) (pe_lst pa_nil) rfl)
     (pss_cons (ps_fld (pv 0) (pe_lst (pa_cons pe_int (pa_cons pe_int (pa_cons pe_int (pa_cons pe_int pa_nil))))) rfl)
     (pss_cons (ps_fld (pv 0) (pe_mk D_Table_init (hr.mono (by decide)) (pa_cons (pv 1) pa_nil)) rfl)
     (pss_cons (ps_fld (pv 0) pe_non rfl)
     (pss_cons (ps_fld (pv 0) pe_non rfl)
     (pss_cons (ps_fld (pv 0) pe_non rfl)
     (pss_cons (ps_fld (pv 0) (pe_lst pa_nil) rfl)
     (pss_one (ps_fld (pv 0) (pe_m0 (pv 0) T.k_Asker D_Asker__next_step (hr.mono (by decide))) rfl))))))))))))))), ?_⟩
  obtain ⟨p, dx, a, par, sec, lb, rfl, hp, ha, lbo, lp, ctx, kq⟩ := h
  obtain ⟨k1, k4, o1, o6, m30, hout⟩ := ctx_k ctx
  have m1 := ctx.m1
  replace hp : H p = some (.ins c.Asker dx (fl_Asker.zip [])) := hp
  refine ⟨_, rfl, _, _, rfl, rfl, _, rfl, iteP (decide_eq_true (by omega)) ⟨_, _, rfl, rfl, _, rfl, iteN (by rw [decide_eq_true (by omega)]; rfl) ?_⟩⟩
  refine ⟨_, rfl, _, _, rfl, rfl, _, rfl, iteP (decide_eq_true (by omega)) ⟨_, _, rfl, rfl, _, rfl, iteN (by rw [decide_eq_true (by omega)]; rfl) ?_⟩⟩
  refine ⟨_, rfl, _, _, rfl, rfl, _, rfl, iteP (decide_eq_true (by omega)) ⟨_, _, rfl, rfl, _, rfl, iteN (by rw [decide_eq_true (by omega)]; rfl) ?_⟩⟩
  refine ⟨_, rfl, _, rfl, fput T.fA (i := 0) hp rfl ?_⟩
  obtain ⟨st1, ob1⟩ := init_put (n := 0) (v := nv par.k) lbo hp lp rfl rfl
  have npa : a ≠ p := ne_of ha hp fun z => by cases z
  have keepA : ∀ (H2 : Hp) o, H2 a = some (.lst []) → upd H2 p o a = some (.lst []) := fun H2 o h => by rw [upd_ne npa]; exact h
  refine ⟨_, rfl, _, rfl, fput T.fA (i := 1) ob1 rfl ?_⟩
  obtain ⟨st2, ob2⟩ := init_put (n := 1) (v := nv par.o) st1.ok ob1 lp rfl rfl
  refine ⟨_, rfl, _, rfl, fput T.fA (i := 2) ob2 rfl ?_⟩
  obtain ⟨st3, ob3⟩ := init_put (n := 2) (v := nv par.most) st2.ok ob2 lp rfl rfl
  have st03 := (st1.trans st2).trans st3
  refine ⟨_, rfl, _, rfl, _, rfl, par.k, par.o, a, rfl, keepA _ _ (keepA _ _ (keepA _ _ ha)), fun H4 g e4 hg0 hg => ⟨_, rfl, fput T.fA (i := 3) (e4 p _ ob3) rfl ?_⟩⟩
  obtain ⟨lb4, st4, lg4⟩ := init_ex 2 st3.ok e4 hg0 hg fun z => z
  have lp4 := st4.lab ob3 lp
  have ob4 := e4 p _ ob3
  have st04 := st03.trans st4
  obtain ⟨st5, ob5⟩ := init_put (n := 3) (v := .ref g) st4.ok ob4 lp4 rfl rfl
  have hg5 := st5.at hg lg4
  refine ⟨_, rfl, fget T.fA (i := 3) ob5 rfl rfl ⟨g, rfl, hg5, fun d hd => ⟨_, rfl, fput T.fA (i := 4) ((Ex.new hd) p _ ob5) rfl ?_⟩⟩⟩
  obtain ⟨lb6, st6, ld6, hd6⟩ := init_new (o := .dT []) 3 st5.ok hd fun z => z
  have ob6 := st6.at ob5 lp4
  have lp6 := st6.lab ob5 lp4
  obtain ⟨st7, ob7⟩ := init_put (n := 4) (v := .ref d) st6.ok ob6 lp6 rfl rfl
  refine ⟨by decide, fun r hr0 => ⟨_, rfl, fput T.fA (i := 5) ((Ex.new hr0) p _ ob7) rfl ?_⟩⟩
  obtain ⟨lb8, st8, lr8, hr8⟩ := init_new (o := .lst []) 4 st7.ok hr0 fun z => z
  have ob8 := st8.at ob7 lp6
  have lp8 := st8.lab ob7 lp6
  obtain ⟨st9, ob9⟩ := init_put (n := 5) (v := .ref r) st8.ok ob8 lp8 rfl rfl
  refine ⟨sz4, fun n hn0 => ⟨_, rfl, fput T.fA (i := 6) ((Ex.new hn0) p _ ob9) rfl ?_⟩⟩
  obtain ⟨lb10, st10, ln10, hn10⟩ := init_new (o := .lst [.int 0, .int 0, .int 0, .int 0]) 5 st9.ok hn0 fun z => z
  have ob10 := st10.at ob9 lp8
  have lp10 := st10.lab ob9 lp8
  obtain ⟨st11, ob11⟩ := init_put (n := 6) (v := .ref n) st10.ok ob10 lp10 rfl rfl
  refine ⟨_, rfl, fun x xd nx ndx nex => ?_⟩
  have em := make_ex (o := .ins c.Table xd []) nx ndx nex
  refine ⟨x, xd, par.k, rfl, upd_same, k4, fun H12 aS aE aR fS fE fR nSR tb12 but => ⟨rfl, ?_⟩⟩
  have e12 := ex_but em but nx
  obtain ⟨⟨tdx, htb⟩, ⟨v1, hS, _⟩, ⟨v2, hE, _⟩, ⟨v3, hR, _⟩, nSE, nRE⟩ := id tb12
  have nxS : x ≠ aS := ne_of htb hS fun z => by cases z
  have nxE : x ≠ aE := ne_of htb hE fun z => by cases z
  have nxR : x ≠ aR := ne_of htb hR fun z => by cases z
  obtain ⟨lb12, st12, l6, l7, l8, l9⟩ := init_four st11.ok e12 nx (fresh_back em fS) (fresh_back em fE) (fresh_back em fR) htb hS hE hR (fun z => z) (fun z => z) (fun z => z) (fun z => z) nxS nxE nxR nSE nSR nRE
  have ob12 := e12 p _ ob11
  have lp12 := st12.lab ob11 lp10
  refine ⟨_, rfl, fput T.fA (i := 7) ob12 rfl ?_⟩
  obtain ⟨st13, ob13⟩ := init_put (n := 7) (v := .ref x) st12.ok ob12 lp12 rfl rfl
  refine ⟨_, rfl, fput T.fA (i := 8) ob13 rfl ?_⟩
  obtain ⟨st14, ob14⟩ := init_put (n := 8) (v := .non) st13.ok ob13 lp12 rfl rfl
  refine ⟨_, rfl, fput T.fA (i := 9) ob14 rfl ?_⟩
  obtain ⟨st15, ob15⟩ := init_put (n := 9) (v := .non) st14.ok ob14 lp12 rfl rfl
  refine ⟨_, rfl, fput T.fA (i := 10) ob15 rfl ?_⟩
  obtain ⟨st16, ob16⟩ := init_put (n := 10) (v := .non) st15.ok ob15 lp12 rfl rfl
  refine ⟨by decide, fun q hq0 => ⟨_, rfl, fput T.fA (i := 11) ((Ex.new hq0) p _ ob16) rfl ?_⟩⟩
  obtain ⟨lb17, st17, lq17, hq17⟩ := init_new (o := .lst []) 10 st16.ok hq0 fun z => z
  have ob17 := st17.at ob16 lp12
  have lp17 := st17.lab ob16 lp12
  obtain ⟨st18, ob18⟩ := init_put (n := 11) (v := .ref q) st17.ok ob17 lp17 rfl rfl
  -- what stands at the end
  have tq := st18
  have tt := (((st13.trans st14).trans st15).trans st16).trans (st17.trans tq)
  have tn := st11.trans (st12.trans tt)
  have tr := st9.trans (st10.trans tn)
  have td := st7.trans (st8.trans tr)
  have st0 := st04.trans (st5.trans (st6.trans td))
  obtain ⟨t6, t7, t8, t9⟩ := tab_lab tb12 l6 l7 l8 l9 tt
  obtain ⟨m, hW⟩ := Mai.W_init ctx
  have aa : AskAt c par _ lb17 p ⟨dx, g, d, r, n, x, aS, aE, aR, q, .non, .non, .non, 0⟩ Mai.init [] :=
    ⟨ob18, lp17, ⟨td.at hd6 ld6, td.lab hd6 ld6, ⟨[], tr.at hr8 lr8, rfl⟩, tr.lab hr8 lr8, tn.at hn10 ln10, tn.lab hn10 ln10, tab_keep tb12 l6 l7 l8 l9 tt, t6, t7, t8, t9⟩, rfl, rfl, rfl, ⟨[], tq.at hq17 lq17, Als.nil⟩, tq.lab hq17 lq17⟩
  refine ⟨_, rfl, p, dx, _, rfl, aa.ob, zip_none (by decide +kernel), p, par, sec, lb17, _, _, _, m, rfl, tq.ok, aa, ctx, hW, fun v H19 lb19 A19 s19 y st19 aa19 nr19 sv19 R19 ws19 c319 => ⟨_, rfl, fput T.fA (i := 12) aa19.ob rfl ?_⟩⟩
  obtain ⟨st20, aa20⟩ := ask_step (v := v) st19.ok aa19 (by simp)
  exact kq _ lb19 A19 v s19 y (((st0.trans st19).trans st20).mono (by decide) LLz) aa20 (sv19.keep st20) R19 ws19 c319 nr19
end
end MW
/-! ## W11 -/
namespace MW
open PySem PySem.Spec PyProof.Rows L2 Evl
/-! ### the changed asker -/
abbrev LC : List Nat := 30 :: LL
theorem LCz : 0 ∉ LC := by decide
structure ChAt (c : Cs) (par : Mai.Par) (H : Hp) (lb : Addr → Nat) (x p : Addr) (A : AD) (s : Mai.AS) (sv : V) (y : Mai.Stp) (bv fv : V) (lg : Nat) : Prop where
  ob : ∃ dx, H x = some (.ins c.ChangedAsker dx (fl_ChangedAsker.zip [.ref p, bv, fv, nv lg]))
  lx : lb x = 30
  aa : AskAt c par H lb p A s [sv]
  sv : SvAt H lb sv y
def ChNext (c : Cs) (par : Mai.Par) (N : Nat) (H : Hp) (lb : Addr → Nat) (x p : Addr) (A : AD) (ws : List (List Nat)) (c3 c2 lg : Nat) (bv : V) (Q : VK) : Prop :=
  ∀ H' lb' A' sv s y, St LC lb lb' H H' → ChAt c par H' lb' x p A' s sv y bv .non lg → Mai.R par N s y → s.ws = ws → (s.c3 = c3 ∧ s.c2 = c2 + isP y) → A'.nr = A.nr + 1 → Q .non H'
def sp_ChangedAsker_init (P : Program) (w : World) (K : PySem.W.Frag) (c : Cs) : Sp := fun vs H Q _ => ∃ (x dx : Addr) (mv : V) (par : Mai.Par) (sec was : Mai.Mach) (lb : Addr → Nat), vs = [.ref x, mv, nv par.most] ∧ H x = some (.ins c.ChangedAsker dx []) ∧ Lb H lb ∧ lb x = 30 ∧ MF H mv was ∧ was.WF ∧ par.k = was.k ∧ par.o = was.o ∧ Mai.Ctx par sec ∧ was.least.n ≤ par.most ∧
  ∀ H' lb' p A s sv y bv fa, St LC lb lb' H H' → ChAt c par H' lb' x p A s sv y bv (.ref fa) 0 → H' fa = some (.tup [.str "propose", bv]) → MA H' bv was.least → Mai.R par sec.least.n s y → s.ws = [] → (s.c3 = 0 ∧ s.c2 = 0 + isP y) → A.nr = 0 → Q .non H'
def sp_ChangedAsker_step (P : Program) (w : World) (K : PySem.W.Frag) (c : Cs) : Sp := fun vs H Q _ => ∃ (x p : Addr) (par : Mai.Par) (lb : Addr → Nat) (A : AD) (s : Mai.AS) (sv : V) (y : Mai.Stp) (bv fv : V) (lg : Nat), vs = [.ref x] ∧ ChAt c par H lb x p A s sv y bv fv lg ∧
  ((∃ fa, fv = .ref fa) ∧ Q fv H ∨ fv = .non ∧ (∀ wd, y = .ask wd → ∀ H' a l, Ex H H' → H a = none → H l = none → H' a = some (.tup [.str "ask", .ref l]) → H' l = some (.lst (nvs wd)) → Q (.ref a) H') ∧ ((∀ wd, y ≠ .ask wd) → Q sv H))
def sp_ChangedAsker_answer (P : Program) (w : World) (K : PySem.W.Frag) (c : Cs) : Sp := fun vs H Q _ => ∃ (x p : Addr) (par : Mai.Par) (sec : Mai.Mach) (lb : Addr → Nat) (A : AD) (s : Mai.AS) (sv : V) (wd : List Nat) (bv : V) (lg : Nat), vs = [.ref x, nv (par.out wd)] ∧ Lb H lb ∧ ChAt c par H lb x p A s sv (.ask wd) bv .non lg ∧ Mai.Ctx par sec ∧ Mai.R par sec.least.n s (.ask wd) ∧ A.nr ≤ 100000 ∧
  ChNext c par sec.least.n H lb x p A (s.ws ++ [wd]) s.c3 s.c2 lg bv Q
def sp_ChangedAsker_accept (P : Program) (w : World) (K : PySem.W.Frag) (c : Cs) : Sp := fun vs H Q _ => ∃ (x p : Addr) (par : Mai.Par) (lb : Addr → Nat) (A : AD) (s : Mai.AS) (sv : V) (y : Mai.Stp) (bv fv : V) (lg : Nat), vs = [.ref x] ∧ Lb H lb ∧ ChAt c par H lb x p A s sv y bv fv lg ∧ A.nr ≤ 100000 ∧
  ((∃ fa, fv = .ref fa ∧ H fa = some (.tup [.str "propose", bv])) ∧ (∀ H' fa, St LC lb lb H H' → ChAt c par H' lb x p A s sv y bv (.ref fa) lg → H' fa = some (.tup [.str "done", bv]) → Q .non H') ∨
   fv = .non ∧ ∃ m, y = .propose m ∧ ∀ H' lb' A' sv', St LC lb lb' H H' → ChAt c par H' lb' x p A' s sv' (.done m) bv .non lg → A'.nr = A.nr + 1 → Q .non H')
def sp_ChangedAsker_show (P : Program) (w : World) (K : PySem.W.Frag) (c : Cs) : Sp := fun vs H Q _ => ∃ (x p : Addr) (wv : V) (par : Mai.Par) (sec : Mai.Mach) (lb : Addr → Nat) (A : AD) (s : Mai.AS) (sv : V) (y : Mai.Stp) (bv fv : V) (lg : Nat) (wd : List Nat), vs = [.ref x, wv] ∧ Lb H lb ∧ ChAt c par H lb x p A s sv y bv fv lg ∧ A.nr ≤ 100000 ∧ (∃ a, wv = .ref a ∧ H a = some (.lst (nvs wd)) ∧ lb a ∉ LC) ∧ Mai.okw par.k wd ∧ wd.length ≤ 300 ∧
  ((∃ fa, fv = .ref fa ∧ H fa = some (.tup [.str "propose", bv])) ∧ (∃ m, MA H bv m ∧ m.k = par.k) ∧ (∀ H', St LC lb lb H H' → ChAt c par H' lb x p A s sv y bv .non wd.length → Q .non H') ∨
   fv = .non ∧ ∃ m, y = .propose m ∧ Mai.Ctx par sec ∧ Mai.R par sec.least.n s (.propose m) ∧ par.out wd ≠ (s.M par).out 0 wd ∧ ChNext c par sec.least.n H lb x p A s.ws (max s.c3 wd.length) s.c2 lg bv Q)
def sp_ChangedAsker_report (P : Program) (w : World) (K : PySem.W.Frag) (c : Cs) : Sp := fun vs H Q _ => ∃ (x p : Addr) (par : Mai.Par) (lb : Addr → Nat) (A : AD) (s : Mai.AS) (sv : V) (y : Mai.Stp) (bv fv : V) (lg : Nat), vs = [.ref x] ∧ ChAt c par H lb x p A s sv y bv fv lg ∧
  ((∃ fa, fv = .ref fa) ∧ (∀ H' a, Ex H H' → H' a = some (.tup [nv 0, nv 0, nv 1, nv lg]) → Q (.ref a) H') ∨
   fv = .non ∧ ∀ H' a, Ex H H' → H' a = some (.tup [nv s.ws.length, nv (s.ws.map List.length).sum, nv (s.c2 + 1), nv (max s.c3 lg)]) → Q (.ref a) H')
/-! ### the difference search -/
def sp_search (P : Program) (w : World) (K : PySem.W.Frag) (c : Cs) : Sp := fun vs H Q _ => ∃ (v1 v2 : V) (m m' : Mai.Mach), vs = [v1, v2, nv 0, nv 0] ∧ MA H v1 m ∧ MA H v2 m' ∧ m.WF ∧ m'.WF ∧ m.k = m'.k ∧
  (Mai.Mach.search m m' = none → ∀ H', Ex H H' → Q .non H') ∧ ∀ wd, Mai.Mach.search m m' = some wd → ∀ H' r, Ex H H' → H' r = some (.lst (nvs wd)) → Q (.ref r) H'
def sp_check_kind (P : Program) (w : World) (K : PySem.W.Frag) (c : Cs) : Sp := fun vs H Q _ => ∃ (v1 v2 : V) (m m' : Mai.Mach), vs = [v1, v2] ∧ MA H v1 m ∧ MA H v2 m' ∧ m.k = m'.k ∧ m.o = m'.o ∧ Q .non H
def sp_first_difference (P : Program) (w : World) (K : PySem.W.Frag) (c : Cs) : Sp := fun vs H Q E => ∃ (v1 v2 : V) (m m' : Mai.Mach), vs = [v1, v2] ∧ MA H v1 m ∧ MA H v2 m' ∧ m.WF ∧ m'.WF ∧ m.k = m'.k ∧ m.o = m'.o ∧
  (Mai.Mach.search m m' = none → ∀ H', Ex H H' → E (.ref c.Alike) none H') ∧ ∀ wd, Mai.Mach.search m m' = some wd → ∀ H' r, Ex H H' → H' r = some (.lst (nvs wd)) → Q (.ref r) H'
end MW
/-! ## P8 -/
namespace MW
open PySem PySem.Spec PyProof.Rows L2 Evl
section
variable {P : Program} {w : World} {K : PySem.W.Frag} {mg : Str → Option Value} {base : Heap} {c : Cs}
theorem AskAt.keep30 {c : Cs} {par : Mai.Par} {lb lb' : Addr → Nat} {H H' : Hp} {p : Addr} {A : AD} {s : Mai.AS} {rest : List V} (a : AskAt c par H lb p A s rest) (t : St [30] lb lb' H H') : AskAt c par H' lb' p A s rest := by
  obtain ⟨h1, h2⟩ := qu_keep a.qu a.lq t
  exact ⟨t.at a.ob a.lp, t.lab a.ob a.lp, a.b.keep t, a.vm.keep t.tk, a.vsh.keep t.tk, a.vse.keep t, h1, h2⟩
theorem ch_put {c : Cs} {H : Hp} {lb : Addr → Nat} {p dx : Addr} {n : Nat} {f : Str} {v : V} {vs : List V} (ok : Lb H lb) (ob : H p = some (.ins c.ChangedAsker dx (fl_ChangedAsker.zip vs))) (lp : lb p = 30) (hf : fl_ChangedAsker[n]? = some f) (hn : n = vs.length) :
    St [30] lb lb H (upd H p (.ins c.ChangedAsker dx (putF f v (fl_ChangedAsker.zip vs)))) ∧ upd H p (.ins c.ChangedAsker dx (putF f v (fl_ChangedAsker.zip vs))) p = some (.ins c.ChangedAsker dx (fl_ChangedAsker.zip (vs ++ [v]))) :=
  ⟨St.upd ok ob lp (by decide) fun z => z, by rw [upd_same, zip_end nd_ChangedAsker hf hn]⟩
theorem ch_set {c : Cs} {H : Hp} {lb : Addr → Nat} {p dx : Addr} {n : Nat} {f : Str} {v : V} {vs : List V} (ok : Lb H lb) (ob : H p = some (.ins c.ChangedAsker dx (fl_ChangedAsker.zip vs))) (lp : lb p = 30) (hf : fl_ChangedAsker[n]? = some f) (hn : n < vs.length) :
    St [30] lb lb H (upd H p (.ins c.ChangedAsker dx (putF f v (fl_ChangedAsker.zip vs)))) ∧ upd H p (.ins c.ChangedAsker dx (putF f v (fl_ChangedAsker.zip vs))) p = some (.ins c.ChangedAsker dx (fl_ChangedAsker.zip (vs.set n v))) :=
  ⟨St.upd ok ob lp (by decide) fun z => z, by rw [upd_same, zip_put nd_ChangedAsker hf hn]⟩
theorem ok_ChangedAsker_init {f : Addr} {fd : FuncData} (T : Tx K mg c) (D_check_machine : Dfn P w K mg base CX0 2 "check_machine" p_check_machine (sp_check_machine P w K c)) (D_Asker_init : Mkd P w K mg base CX0 7 "Asker" c.Asker p_Asker_init (sp_Asker_init P w K c)) (D_least : Dfn P w K mg base CX0 3 "least" p_least (sp_least P w K c)) (F : FnP K "__init__" "ChangedAsker.__init__" s_ChangedAsker_init f fd) : FnOk P w K mg base CX0 9 f fd p_ChangedAsker_init (sp_ChangedAsker_init P w K c) := by
  refine F.ok sc_ChangedAsker_init (fun vs H Q E h => by obtain ⟨_, _, _, _, _, _, _, rfl, _⟩ := h; rfl) (fun cdv A outer s H vs Q E hr h => ?_)
  refine ⟨_, PSs.nox (pss_cons (ps_expr (pe_c D_check_machine (hr.mono (by decide)) (pa_cons (pv 1) pa_nil)))
     (pss_cons (ps_fld (pv 0) (pe_mk D_Asker_init (hr.mono (by decide)) (pa_cons (pe_ix ix_tup (pv 1) pe_int (fun _ _ => rfl)) (pa_cons (pe_ix ix_tup (pv 1) pe_int (fun _ _ => rfl)) (pa_cons (pv 2) (pa_cons (pe_lst pa_nil) pa_nil))))) rfl)
     (pss_cons (ps_fld (pv 0) (pe_c D_least (hr.mono (by decide)) (pa_cons (pv 1) pa_nil)) rfl)
     (pss_cons (ps_if (pt_cmpR op_gt (pe_callB call_len_seq (by rfl) T.b_len PySem.boot_len (pa_cons (pe_ix ix_tup (pe_fld (pv 0) rfl) pe_int (fun _ _ => rfl)) pa_nil)) (pv 2) (by rfl))
     (pss_one (ps_never))
     pss_nil)
     (pss_cons (ps_fld (pv 0) (pe_tup (pa_cons pe_str (pa_cons (pe_fld (pv 0) rfl) pa_nil))) rfl)
     (pss_one (ps_fld (pv 0) pe_int rfl))))))), ?_⟩
  obtain ⟨x, dx, mv, par, sec, was, lb, rfl, hx, lbo, lx, hMF, wf, hk, ho, ctx, hle, kq⟩ := h
  replace hx : H x = some (.ins c.ChangedAsker dx (fl_ChangedAsker.zip [])) := hx
  refine ⟨_, rfl, mv, was, rfl, hMF.ma, wf, fun H1 e1 => ?_⟩
  have hMF1 := hMF.keep (tk_ex e1)
  obtain ⟨a, b, d, rs, rfl, ha, hb, hrs, hd⟩ := id hMF1
  refine ⟨_, rfl, a, _, _, _, rfl, rfl, SqT.of ha, at_nat (j := 0) rfl rfl, _, rfl, a, _, _, _, rfl, rfl, SqT.of ha, at_nat (j := 1) rfl rfl, _, rfl, by decide, fun kn hkn => ?_⟩
  intro p pd np npd ned
  have em := make_ex (o := .ins c.Asker pd []) np npd ned
  have e2 := (Ex.new (o := HO.lst []) hkn).trans em
  have st1 : St [] lb lb H H1 := St.ex lbo e1
  have np1 : H1 p = none := fresh_back (Ex.new (o := HO.lst []) hkn) np
  obtain ⟨lb2, st2, lp2⟩ := init_ex (o := .ins c.Asker pd []) 1 st1.ok e2 np1 upd_same fun z => z
  refine ⟨p, pd, kn, par, sec, lb2, by rw [hk, ho]; rfl, upd_same, em kn _ upd_same, st2.ok, lp2, ctx, fun H3 lb3 A3 sv s y st3 aa3 hsv3 hR hws hc3 hnr => ⟨rfl, ?_⟩⟩
  have hx3 := ((st1.trans st2).trans st3).at hx lx
  have lx3 := ((st1.trans st2).trans st3).lab hx lx
  refine ⟨_, rfl, fput T.fC (i := 0) hx3 rfl ?_⟩
  obtain ⟨st4, ob4⟩ := ch_put (n := 0) (v := .ref p) st3.ok hx3 lx3 rfl rfl
  have st04 := ((st1.trans st2).trans st3).trans st4
  have aa4 := aa3.keep30 st4
  have hMF4 := hMF.keep st04.tk
  refine ⟨_, rfl, _, was, rfl, hMF4, wf, fun bv H5 e5 hbv => ⟨_, rfl, fput T.fC (i := 1) (e5 x _ ob4) rfl ?_⟩⟩
  have st5 : St [] lb3 lb3 _ H5 := St.ex st4.ok e5
  obtain ⟨st6, ob6⟩ := ch_put (n := 1) (v := bv) st5.ok (e5 x _ ob4) lx3 rfl rfl
  have hbv6 := hbv.keep st6.tk
  obtain ⟨ba, bb, bd, brs, rfl, hba, hbb, hbrs, hbd⟩ := id hbv6
  refine ⟨_, rfl, fget T.fC (i := 1) ob6 rfl rfl ⟨ba, _, _, _, rfl, rfl, SqT.of hba, at_nat (j := 3) rfl rfl, bd, _, rfl, .inr (sqT_rd hbd), _, rfl, _, _, rfl, rfl, _, rfl, iteN (decide_eq_false ?_) ?_⟩⟩
  · rw [nvs_len]
    have : was.least.ou.length ≤ par.most := hle
    omega
  refine ⟨_, rfl, fget T.fC (i := 1) ob6 rfl rfl ⟨sz2, fun fa hfa => ⟨_, rfl, fput T.fC (i := 2) ((Ex.new hfa) x _ ob6) rfl ?_⟩⟩⟩
  have st7 : St [] lb3 lb3 _ _ := St.ex st6.ok (Ex.new (o := HO.tup [.str "propose", .ref ba]) hfa)
  have ob7 := st7.at ob6 lx3
  obtain ⟨st8, ob8⟩ := ch_put (n := 2) (v := .ref fa) st7.ok ob7 lx3 rfl rfl
  refine ⟨_, rfl, fput T.fC (i := 3) ob8 rfl ?_⟩
  obtain ⟨st9, ob9⟩ := ch_put (n := 3) (v := .int 0) st8.ok ob8 lx3 rfl rfl
  have st89 := st8.trans st9
  refine kq _ lb3 p A3 s sv y (.ref ba) fa ((((st04.trans st5).trans st6).trans (st7.trans st89)).mono (by decide) LCz) ⟨⟨dx, ob9⟩, lx3, ((((aa4.keep st5).keep30 st6).keep st7).keep30 st8).keep30 st9, ((((hsv3.keep st4).keep st5).keep st6).keep st7).keep st89⟩ (st89.tk.at upd_same) (hbv6.keep (st7.trans st89).tk) hR hws hc3 hnr

theorem ok_ChangedAsker_step {f : Addr} {fd : FuncData} (T : Tx K mg c) (D_Asker_step : Mtd P w K mg base CX0 1 c.Asker "step" p_Asker_step (sp_Asker_step P w K c)) (F : FnP K "step" "ChangedAsker.step" s_ChangedAsker_step f fd) : FnOk P w K mg base CX0 2 f fd p_ChangedAsker_step (sp_ChangedAsker_step P w K c) := by
  refine F.ok sc_ChangedAsker_step (fun vs H Q E h => by obtain ⟨_, _, _, _, _, _, _, _, _, _, _, rfl, _⟩ := h; rfl) (fun cdv A outer s H vs Q E hr h => ?_)
  refine ⟨_, PSs.nox (pss_cons (ps_if (pt_cmpR op_notN (pe_fld (pv 0) rfl) pe_non (by rfl))
     (pss_one (ps_ret (pe_fld (pv 0) rfl)))
     pss_nil)
     (pss_one (ps_ret (pe_m0 (pe_fld (pv 0) rfl) T.k_Asker D_Asker_step (hr.mono (by decide)))))), ?_⟩
  obtain ⟨x, p, par, lb, A', s, sv, y, bv, fv, lg, rfl, ch, kq⟩ := h
  obtain ⟨dx, ob⟩ := ch.ob
  refine ⟨_, rfl, fget T.fC (i := 2) ob rfl rfl ⟨rfl, _, rfl, ?_⟩⟩
  rcases kq with ⟨⟨fa, rfl⟩, k⟩ | ⟨rfl, k1, k2⟩
  · exact iteP (nd_t fun z => by cases z) ⟨_, rfl, fget T.fC (i := 2) ob rfl rfl k⟩
  · exact iteN (nd_f rfl) ⟨_, rfl, fget T.fC (i := 0) ob rfl rfl ⟨p, A'.dx, _, rfl, ch.aa.ob, zip_none (by decide +kernel), p, par, lb, A', s, sv, y, rfl, ch.aa, ch.sv, k1, k2⟩⟩

theorem ok_ChangedAsker_answer {f : Addr} {fd : FuncData} (T : Tx K mg c) (D_Asker_answer : Mtd P w K mg base CX0 7 c.Asker "answer" p_Asker_answer (sp_Asker_answer P w K c)) (F : FnP K "answer" "ChangedAsker.answer" s_ChangedAsker_answer f fd) : FnOk P w K mg base CX0 8 f fd p_ChangedAsker_answer (sp_ChangedAsker_answer P w K c) := by
  refine F.ok sc_ChangedAsker_answer (fun vs H Q E h => by obtain ⟨_, _, _, _, _, _, _, _, _, _, _, rfl, _⟩ := h; rfl) (fun cdv A outer s H vs Q E hr h => ?_)
  refine ⟨_, PSs.nox (pss_cons (ps_if (pt_cmpR op_notN (pe_fld (pv 0) rfl) pe_non (by rfl))
     (pss_one (ps_never))
     pss_nil)
     (pss_one (ps_expr (pe_m (pe_fld (pv 0) rfl) T.k_Asker D_Asker_answer (hr.mono (by decide)) (pa_cons (pv 1) pa_nil))))), ?_⟩
  obtain ⟨x, p, par, sec, lb, A', s, sv, wd, bv, lg, rfl, lbo, ch, ctx, hR, hnr, kq⟩ := h
  obtain ⟨dx, ob⟩ := ch.ob
  refine ⟨_, rfl, fget T.fC (i := 2) ob rfl rfl ⟨rfl, _, rfl, iteN (nd_f rfl) ⟨_, rfl, fget T.fC (i := 0) ob rfl rfl ⟨p, A'.dx, _, rfl, ch.aa.ob, zip_none (by decide +kernel), _, rfl, p, par, sec, lb, A', s, sv, wd, rfl, lbo, ch.aa, ch.sv, ctx, hR, hnr, fun H' lb' A1 sv1 s1 y1 st aa hsv hR1 hws hc3 hnr1 => ?_⟩⟩⟩⟩
  exact kq H' lb' A1 sv1 s1 y1 (st.mono (by decide) LCz) ⟨⟨dx, st.at ob ch.lx⟩, st.lab ob ch.lx, aa, hsv⟩ hR1 hws hc3 hnr1

theorem ok_ChangedAsker_accept {f : Addr} {fd : FuncData} (T : Tx K mg c) (D_Asker_accept : Mtd P w K mg base CX0 2 c.Asker "accept" p_Asker_accept (sp_Asker_accept P w K c)) (F : FnP K "accept" "ChangedAsker.accept" s_ChangedAsker_accept f fd) : FnOk P w K mg base CX0 3 f fd p_ChangedAsker_accept (sp_ChangedAsker_accept P w K c) := by
  refine F.ok sc_ChangedAsker_accept (fun vs H Q E h => by obtain ⟨_, _, _, _, _, _, _, _, _, _, _, rfl, _⟩ := h; rfl) (fun cdv A outer s H vs Q E hr h => ?_)
  refine ⟨_, PSs.nox (pss_one (ps_if (pt_cmpR op_isN (pe_fld (pv 0) rfl) pe_non (by rfl))
     (pss_one (ps_expr (pe_m0 (pe_fld (pv 0) rfl) T.k_Asker D_Asker_accept (hr.mono (by decide)))))
     (pss_one (ps_if (pt_cmpR op_eq (pe_ix ix_tup (pe_fld (pv 0) rfl) pe_int (fun _ _ => rfl)) pe_str (by rfl))
     (pss_one (ps_fld (pv 0) (pe_tup (pa_cons pe_str (pa_cons (pe_fld (pv 0) rfl) pa_nil))) rfl))
     (pss_one (ps_never)))))), ?_⟩
  obtain ⟨x, p, par, lb, A', s, sv, y, bv, fv, lg, rfl, lbo, ch, hnr, kq⟩ := h
  obtain ⟨dx, ob⟩ := ch.ob
  refine ⟨_, rfl, fget T.fC (i := 2) ob rfl rfl ⟨rfl, _, rfl, ?_⟩⟩
  rcases kq with ⟨⟨fa, rfl, hfa⟩, k⟩ | ⟨rfl, m, rfl, k⟩
  · refine iteN (d_f fun z => by cases z) ⟨_, rfl, fget T.fC (i := 2) ob rfl rfl ⟨fa, _, _, _, rfl, rfl, SqT.of hfa, at_nat (j := 0) rfl rfl, rfl, _, rfl, iteP (d_t rfl) ⟨_, rfl, fget T.fC (i := 1) ob rfl rfl ⟨sz2, fun t ht => ⟨_, rfl, fput T.fC (i := 2) ((Ex.new ht) x _ ob) rfl ?_⟩⟩⟩⟩⟩
    have st1 : St [] lb lb H _ := St.ex lbo (Ex.new (o := HO.tup [.str "done", bv]) ht)
    obtain ⟨st2, ob2⟩ := ch_set (n := 2) (v := .ref t) st1.ok (st1.at ob ch.lx) ch.lx rfl (by simp)
    exact k _ t ((st1.trans st2).mono (by decide) LCz) ⟨⟨dx, ob2⟩, ch.lx, (ch.aa.keep st1).keep30 st2, (ch.sv.keep st1).keep st2⟩ (st2.tk.at upd_same)
  · refine iteP (d_t rfl) ⟨_, rfl, fget T.fC (i := 0) ob rfl rfl ⟨p, A'.dx, _, rfl, ch.aa.ob, zip_none (by decide +kernel), p, par, lb, A', s, sv, m, rfl, lbo, ch.aa, ch.sv, hnr, fun H' lb' A1 sv1 st aa hsv hnr1 => ?_⟩⟩
    exact k H' lb' A1 sv1 (st.mono (by decide) LCz) ⟨⟨dx, st.at ob ch.lx⟩, st.lab ob ch.lx, aa, hsv⟩ hnr1

theorem ok_ChangedAsker_show {f : Addr} {fd : FuncData} (T : Tx K mg c) (D_Asker_show : Mtd P w K mg base CX0 7 c.Asker "show" p_Asker_show (sp_Asker_show P w K c)) (F : FnP K "show" "ChangedAsker.show" s_ChangedAsker_show f fd) : FnOk P w K mg base CX0 8 f fd p_ChangedAsker_show (sp_ChangedAsker_show P w K c) := by
  refine F.ok sc_ChangedAsker_show (fun vs H Q E h => by obtain ⟨_, _, _, _, _, _, _, _, _, _, _, _, _, _, rfl, _⟩ := h; rfl) (fun cdv A outer s H vs Q E hr h => ?_)
  refine ⟨_, PSs.nox (pss_cons (ps_if (pt_cmpR op_isN (pe_fld (pv 0) rfl) pe_non (by rfl))
     (pss_cons (ps_expr (pe_m (pe_fld (pv 0) rfl) T.k_Asker D_Asker_show (hr.mono (by decide)) (pa_cons (pv 1) pa_nil)))
     (pss_one (ps_retN)))
     pss_nil)
     (pss_cons (ps_if (pt_cmpR op_ne (pe_ix ix_tup (pe_fld (pv 0) rfl) pe_int (fun _ _ => rfl)) pe_str (by rfl))
     (pss_one (ps_never))
     pss_nil)
     (pss_cons (ps_set (i := 2) sc_ChangedAsker_show.nd rfl (Or.inr rfl) (pe_ix ix_tup (pe_fld (pv 0) rfl) pe_int (fun _ _ => rfl)))
     (pss_cons (ps_if (PW.pt (pw_or (pt_cmpR op_gt (pe_callB call_len_seq (by rfl) T.b_len PySem.boot_len (pa_cons (pv 1) pa_nil)) (pe_gi rfl T.c_MAX_SHOWN) (by rfl)) (pw_or1 (pt_not (pt_val (pe_callB (cr_all rfl) (by rfl) T.b_all (by decide +kernel) (pa_cons (pe_lc (own := [("letter", 3)]) (te := (tChain (rI0 fun i j => .bl (decide (i ≤ j))) (rI0 fun i j => .bl (decide (i < j))) (tC (.int 0)) (tVar 3) (tVar 2))) (by rfl) sc_ChangedAsker_show.nd (pi_list (pv 1)) (blkOk_by (N := N_ChangedAsker_show) (sc := (defScope s_ChangedAsker_show)) (by decide +kernel)) (fun _ _ _ _ _ => (pg_name (i := 3) sc_ChangedAsker_show.nd rfl (Or.inl rfl))) (fun _ _ _ _ _ => pts_nil) (fun _ _ _ _ _ => (pe_chain op_le op_lt pe_int (pv 3) (pv 2)))) pa_nil)))))))
     (pss_cons (ps_fld (pv 0) (pe_tup (pa_cons pe_str (pa_cons pe_str pa_nil))) rfl)
     (pss_one (ps_retN)))
     pss_nil)
     (pss_cons (ps_fld (pv 0) (pe_callB call_len_seq (by rfl) T.b_len PySem.boot_len (pa_cons (pv 1) pa_nil)) rfl)
     (pss_one (ps_fld (pv 0) pe_non rfl))))))), ?_⟩
  obtain ⟨x, p, wv, par, sec, lb, A', s, sv, y, bv, fv, lg, wd, rfl, lbo, ch, hnr, ⟨al, rfl, hal, hal0⟩, hok, hlen, kq⟩ := h
  obtain ⟨dx, ob⟩ := ch.ob
  refine ⟨_, rfl, fget T.fC (i := 2) ob rfl rfl ⟨rfl, _, rfl, ?_⟩⟩
  rcases kq with ⟨⟨fa, rfl, hfa⟩, ⟨m, hbv, hmk⟩, k⟩ | ⟨rfl, m, rfl, ctx, hR, hne, k⟩
  · refine iteN (d_f fun z => by cases z) ⟨_, rfl, fget T.fC (i := 2) ob rfl rfl ⟨fa, _, _, _, rfl, rfl, SqT.of hfa, at_nat (j := 0) rfl rfl, rfl, _, rfl, iteN (nd_f rfl) ?_⟩⟩
    obtain ⟨ba, bb, bd, brs, rfl, hba, _⟩ := id hbv
    refine ⟨_, rfl, fget T.fC (i := 1) ob rfl rfl ⟨ba, _, _, _, rfl, rfl, SqT.of hba, at_nat (j := 0) rfl rfl, ?_⟩⟩
    refine ⟨_, rfl, al, _, rfl, .inl (SqL.of hal), _, _, rfl, rfl, _, rfl, iteN (decide_eq_false (by rw [nvs_len]; omega)) ?_⟩
    refine ⟨_, rfl, al, rfl, ⟨_, SqL.of hal⟩, fun D hD => lc_w hD (walk_list.mono (fun H2 e => SqL.of (e al _ hal)) fun _ _ _ _ _ _ y => y) (fun _ => rfl) (fun _ v _ => v = .bl true) (fun _ _ _ _ _ h _ _ => h) (fun _ _ _ _ h _ => h) ?_ (by rw [nvs_len]; omega) ?_⟩
    · rintro i z H2 H3 hi e2 _ ⟨rfl, hz⟩ Q' kk
      obtain ⟨q, hq, rfl⟩ := nvs_of hz
      have hqk := hok q (List.mem_of_getElem? hq)
      refine ⟨_, rfl, _, _, rfl, rfl, _, rfl, iteP (decide_eq_true (by omega)) ⟨_, rfl, _, _, rfl, rfl, ?_⟩⟩
      exact kk _ _ (Ex.refl _) (by intro z; cases z) (congrArg V.bl (decide_eq_true (by omega)))
    · intro H2 acc e2 hacc hal2 hap
      have := trues hal2 hap
      subst this
      have st1 : St [] lb lb H H2 := St.ex lbo e2
      have ob1 := st1.at ob ch.lx
      refine ⟨D, _, rfl, SqL.of hacc, _, rfl, iteN (by rw [all_true]; rfl) ⟨_, rfl, al, _, rfl, .inl (SqL.of (e2 al _ hal)), _, rfl, fput T.fC (i := 3) ob1 rfl ?_⟩⟩
      obtain ⟨st2, ob2⟩ := ch_set (n := 3) (v := .int ((nvs wd).length : Nat)) st1.ok ob1 ch.lx rfl (by simp)
      refine ⟨_, rfl, fput T.fC (i := 2) ob2 rfl ?_⟩
      obtain ⟨st3, ob3⟩ := ch_set (n := 2) (v := .non) st2.ok ob2 ch.lx rfl (by simp)
      refine k _ (((st1.trans st2).trans st3).mono (by decide) LCz) ⟨⟨dx, ?_⟩, ch.lx, ((ch.aa.keep st1).keep30 st2).keep30 st3, ((ch.sv.keep st1).keep st2).keep st3⟩
      have e := ob3
      rw [nvs_len] at e ⊢
      exact e
  · refine iteP (d_t rfl) ⟨_, rfl, fget T.fC (i := 0) ob rfl rfl ⟨p, A'.dx, _, rfl, ch.aa.ob, zip_none (by decide +kernel), _, rfl, p, .ref al, par, sec, lb, A', s, sv, m, wd, rfl, lbo, ch.aa, ch.sv, ctx, hR, hnr, ⟨al, rfl, hal, fun z => hal0 (List.mem_cons_of_mem _ z)⟩, hok, hlen, hne, fun H' lb' A1 sv1 s1 y1 st aa hsv hR1 hws hc3 hnr1 => ?_⟩⟩
    exact k H' lb' A1 sv1 s1 y1 (st.mono (by decide) LCz) ⟨⟨dx, st.at ob ch.lx⟩, st.lab ob ch.lx, aa, hsv⟩ hR1 hws hc3 hnr1

theorem ok_ChangedAsker_report {f : Addr} {fd : FuncData} (T : Tx K mg c) (D_Asker_report : Mtd P w K mg base CX0 1 c.Asker "report" p_Asker_report (sp_Asker_report P w K c)) (F : FnP K "report" "ChangedAsker.report" s_ChangedAsker_report f fd) : FnOk P w K mg base CX0 2 f fd p_ChangedAsker_report (sp_ChangedAsker_report P w K c) := by
  refine F.ok sc_ChangedAsker_report (fun vs H Q E h => by obtain ⟨_, _, _, _, _, _, _, _, _, _, _, rfl, _⟩ := h; rfl) (fun cdv A outer s H vs Q E hr h => ?_)
  refine ⟨_, PSs.nox (pss_cons (ps_set (i := 1) sc_ChangedAsker_report.nd rfl (Or.inl rfl) (pe_m0 (pe_fld (pv 0) rfl) T.k_Asker D_Asker_report (hr.mono (by decide))))
     (pss_cons (ps_if (pt_cmpR op_notN (pe_fld (pv 0) rfl) pe_non (by rfl))
     (pss_one (ps_ret (pe_tup (pa_cons pe_int (pa_cons pe_int (pa_cons pe_int (pa_cons (pe_fld (pv 0) rfl) pa_nil)))))))
     pss_nil)
     (pss_one (ps_ret (pe_tup (pa_cons (pe_ix ix_tup (pv 1) pe_int (fun _ _ => rfl)) (pa_cons (pe_ix ix_tup (pv 1) pe_int (fun _ _ => rfl)) (pa_cons (pe_op op_add (pe_ix ix_tup (pv 1) pe_int (fun _ _ => rfl)) pe_int) (pa_cons (pe_callB (call_max2 rfl) (by rfl) T.b_max (by decide +kernel) (pa_cons (pe_ix ix_tup (pv 1) pe_int (fun _ _ => rfl)) (pa_cons (pe_fld (pv 0) rfl) pa_nil))) pa_nil))))))))), ?_⟩
  obtain ⟨x, p, par, lb, A', s, sv, y, bv, fv, lg, rfl, ch, kq⟩ := h
  obtain ⟨dx, ob⟩ := ch.ob
  refine ⟨_, rfl, fget T.fC (i := 0) ob rfl rfl ⟨p, A'.dx, _, rfl, ch.aa.ob, zip_none (by decide +kernel), p, par, lb, A', s, sv, rfl, ch.aa, fun H1 a e1 ha => ?_⟩⟩
  have ob1 := e1 x _ ob
  refine ⟨_, rfl, fget T.fC (i := 2) ob1 rfl rfl ⟨rfl, _, rfl, ?_⟩⟩
  rcases kq with ⟨⟨fa, rfl⟩, k⟩ | ⟨rfl, k⟩
  · exact iteP (nd_t fun z => by cases z) ⟨_, rfl, fget T.fC (i := 3) ob1 rfl rfl ⟨sz4, fun t ht => k _ t (e1.trans (Ex.new ht)) upd_same⟩⟩
  · refine iteN (nd_f rfl) ⟨_, rfl, a, _, _, _, rfl, rfl, SqT.of ha, at_nat (j := 0) rfl rfl, _, rfl, a, _, _, _, rfl, rfl, SqT.of ha, at_nat (j := 1) rfl rfl, _, rfl, a, _, _, _, rfl, rfl, SqT.of ha, at_nat (j := 2) rfl rfl, _, _, rfl, rfl, _, rfl, a, _, _, _, rfl, rfl, SqT.of ha, at_nat (j := 3) rfl rfl, _, rfl, fget T.fC (i := 3) ob1 rfl rfl ⟨_, _, rfl, sz4, fun t ht => k _ t (e1.trans (Ex.new ht)) ?_⟩⟩
    rw [upd_same]
    have emax : (if ((lg : Nat) : Int) > (s.c3 : Int) then ((lg : Nat) : Int) else (s.c3 : Int)) = ((max s.c3 lg : Nat) : Int) := by split <;> omega
    rw [emax]
    rfl

theorem ok_check_kind {f : Addr} {fd : FuncData} (T : Tx K mg c)  (F : FnP K "check_kind" "check_kind" s_check_kind f fd) : FnOk P w K mg base CX0 1 f fd p_check_kind (sp_check_kind P w K c) := by
  refine F.ok sc_check_kind (fun vs H Q E h => by obtain ⟨_, _, _, _, rfl, _⟩ := h; rfl) (fun cdv A outer s H vs Q E hr h => ?_)
  refine ⟨_, PSs.nox (pss_one (ps_if (PW.pt (pw_or (pt_cmpR op_ne (pe_ix ix_tup (pv 0) pe_int (fun _ _ => rfl)) (pe_ix ix_tup (pv 1) pe_int (fun _ _ => rfl)) (by rfl)) (pw_or1 (pt_cmpR op_ne (pe_ix ix_tup (pv 0) pe_int (fun _ _ => rfl)) (pe_ix ix_tup (pv 1) pe_int (fun _ _ => rfl)) (by rfl)))))
     (pss_one (ps_never))
     pss_nil)), ?_⟩
  obtain ⟨v1, v2, m, m', rfl, ⟨a, b, d, rs, rfl, ha, _⟩, ⟨a', b', d', rs', rfl, ha', _⟩, hk, ho, kq⟩ := h
  refine ⟨_, rfl, a, _, _, _, rfl, rfl, SqT.of ha, at_nat (j := 0) rfl rfl, _, rfl, a', _, _, _, rfl, rfl, SqT.of ha', at_nat (j := 0) rfl rfl, rfl, _, rfl, iteN (nd_f (by rw [hk])) ?_⟩
  exact ⟨_, rfl, a, _, _, _, rfl, rfl, SqT.of ha, at_nat (j := 1) rfl rfl, _, rfl, a', _, _, _, rfl, rfl, SqT.of ha', at_nat (j := 1) rfl rfl, rfl, _, rfl, iteN (nd_f (by rw [ho])) kq⟩

def prs (rows : List Mai.Mach.SRow) : List (List Nat) := (Mai.Mach.pairs rows).map fun p => [p.1, p.2]
theorem prs_mem {rows : List Mai.Mach.SRow} {a b : Nat} : [a, b] ∈ prs rows ↔ (a, b) ∈ Mai.Mach.pairs rows := by
  unfold prs
  rw [List.mem_map]
  constructor
  · rintro ⟨⟨x, y⟩, h, e⟩
    simp at e
    rw [← e.1, ← e.2]
    exact h
  · intro h
    exact ⟨(a, b), h, rfl⟩
theorem kdU_val (acc : List (List Nat)) (x : List Nat) : valV (kdU acc) (wk x) = if x ∈ acc then some (.bl true) else none := by
  unfold kdU
  rw [kd_val]
  induction acc with
  | nil => simp
  | cons v ws ih =>
    rw [List.map_cons, List.find?_cons]
    by_cases e : v = x
    · simp [e]
    · have : ¬ x = v := fun z => e z.symm
      simp only [e, decide_false, ih, List.mem_cons, this, false_or]
/-- a row of the search -/
def RowR (H : Hp) (r0 : Addr) (v : V) (x : Mai.Mach.SRow) : Prop := ∃ t l, v = .ref t ∧ H t = some (.tup [nv x.1, nv x.2.1, .ref l]) ∧ H l = some (.lst (nvs x.2.2)) ∧ l ≠ r0
theorem RowR.ex {H H' : Hp} {r0 : Addr} {v : V} {x : Mai.Mach.SRow} (h : RowR H r0 v x) (e : Ex H H') : RowR H' r0 v x := let ⟨t, l, h1, h2, h3, h4⟩ := h; ⟨t, l, h1, e t _ h2, e l _ h3, h4⟩
theorem RowR.up {H : Hp} {r0 : Addr} {v : V} {x : Mai.Mach.SRow} {us ws : List V} (h : RowR H r0 v x) (hr : H r0 = some (.lst us)) : RowR (upd H r0 (.lst ws)) r0 v x := by
  obtain ⟨t, l, h1, h2, h3, h4⟩ := h
  have : t ≠ r0 := ne_of h2 hr fun z => by cases z
  exact ⟨t, l, h1, by rw [upd_ne this]; exact h2, by rw [upd_ne h4]; exact h3, h4⟩
theorem RowR.ud {H : Hp} {r0 d : Addr} {v : V} {x : Mai.Mach.SRow} {k1 k2 : List (List Key × V)} (h : RowR H r0 v x) (hd : H d = some (.dT k1)) : RowR (upd H d (.dT k2)) r0 v x := by
  obtain ⟨t, l, h1, h2, h3, h4⟩ := h
  have n1 : t ≠ d := ne_of h2 hd fun z => by cases z
  have n2 : l ≠ d := ne_of h3 hd fun z => by cases z
  exact ⟨t, l, h1, by rw [upd_ne n1]; exact h2, by rw [upd_ne n2]; exact h3, h4⟩
theorem sr_len {m m' : Mai.Mach} (wf : m.WF) (wf' : m'.WF) {rows : List Mai.Mach.SRow} (ok : Mai.Mach.SrOk m m' rows) : rows.length ≤ 900 := by
  have h1 := ok.le
  have h2 : m.n ≤ 30 := wf.n30
  have h3 : m'.n ≤ 30 := wf'.n30
  have : m.n * m'.n ≤ 30 * 30 := Nat.mul_le_mul h2 h3
  omega
/-- one step of a machine in the heap, read -/
theorem ma_step {K : PySem.W.Frag} {H : Hp} {v : V} {m : Mai.Mach} (h : MA H v m) (wf : m.WF) {s : Nat} (hs : s < m.n) : ∃ a b d x2 a2 rs, v = .ref a ∧ H a = some (.tup [nv m.k, nv m.o, .ref b, .ref d]) ∧ H b = some (.tup rs) ∧ rs[s]? = some x2 ∧ x2 = .ref a2 ∧ H a2 = some (.tup (nvs (m.row s))) ∧ Rd H d (.tup (nvs m.ou)) := by
  obtain ⟨a, b, d, rs, e, ha, hb, hrs, hd⟩ := h
  obtain ⟨x2, hx2, a2, e2, ha2⟩ := hrs.get (row_get wf hs)
  exact ⟨a, b, d, x2, a2, rs, e, ha, hb, hx2, e2, ha2, hd⟩
theorem ok_search {f : Addr} {fd : FuncData} (T : Tx K mg c)  (F : FnP K "search" "search" s_search f fd) : FnOk P w K mg base CX0 1 f fd p_search (sp_search P w K c) := by
  refine F.ok sc_search (fun vs H Q E h => by obtain ⟨_, _, _, _, rfl, _⟩ := h; rfl) (fun cdv A outer s H vs Q E hr h => ?_)
  refine ⟨_, PSs.nox (pss_cons (ps_set (i := 4) sc_search.nd rfl (Or.inl rfl) (pe_lst (pa_cons (pe_tup (pa_cons (pv 2) (pa_cons (pv 3) (pa_cons (pe_lst pa_nil) pa_nil)))) pa_nil)))
     (pss_cons (ps_set (i := 5) sc_search.nd rfl (Or.inl rfl) (pe_disp1 (hu_of hr) (pe_tup (pa_cons (pv 2) (pa_cons (pv 3) pa_nil))) pe_bl))
     (pss_cons (ps_set (i := 6) sc_search.nd rfl (Or.inl rfl) pe_int)
     (pss_cons (ps_while PassesOwn.never (pt_cmpR op_lt (pv 6) (pe_callB call_len_seq (by rfl) T.b_len PySem.boot_len (pa_cons (pv 4) pa_nil)) (by rfl))
     (pss_cons (ps_asg (pe_ix ix_list (pv 4) (pv 6) (fun _ _ => rfl)) (pg_tup (by rfl) (pgs_cons (pg_name (i := 2) sc_search.nd rfl (Or.inl rfl)) (pgs_cons (pg_name (i := 3) sc_search.nd rfl (Or.inl rfl)) (pgs_cons (pg_name (i := 7) sc_search.nd rfl (Or.inl rfl)) pgs_nil)))))
     (pss_cons (ps_if (pt_cmpR op_ne (pe_ix ix_tup (pe_ix ix_tup (pv 0) pe_int (fun _ _ => rfl)) (pv 2) (fun _ _ => rfl)) (pe_ix ix_tup (pe_ix ix_tup (pv 1) pe_int (fun _ _ => rfl)) (pv 3) (fun _ _ => rfl)) (by rfl))
     (pss_one (ps_ret (pv 7)))
     pss_nil)
     (pss_cons (ps_for PassesOwn.never rfl (pi_range1 (by rfl) T.b_range (pa_cons (pe_ix ix_tup (pv 0) pe_int (fun _ _ => rfl)) pa_nil)) (pg_name (i := 8) sc_search.nd rfl (Or.inl rfl))
     (pss_cons (ps_set (i := 9) sc_search.nd rfl (Or.inl rfl) (pe_tup (pa_cons (pe_ix ix_tup (pe_ix ix_tup (pe_ix ix_tup (pv 0) pe_int (fun _ _ => rfl)) (pv 2) (fun _ _ => rfl)) (pv 8) (fun _ _ => rfl)) (pa_cons (pe_ix ix_tup (pe_ix ix_tup (pe_ix ix_tup (pv 1) pe_int (fun _ _ => rfl)) (pv 3) (fun _ _ => rfl)) (pv 8) (fun _ _ => rfl)) pa_nil))))
     (pss_one (ps_if (pt_cmp (pc_dnotin (hu_of hr) (pv 9) (pv 5)))
     (pss_cons (ps_dput (hu_of hr) (pv 5) (pv 9) pe_bl rfl)
     (pss_one (ps_expr (pe_bm PySem.F.plainAttrs_list PySem.F.slot_list_append PySem.F.type_list_append mt_append (pv 4) (pa_cons (pe_tup (pa_cons (pe_ix ix_tup (pv 9) pe_int (fun _ _ => rfl)) (pa_cons (pe_ix ix_tup (pv 9) pe_int (fun _ _ => rfl)) (pa_cons (pe_op op_cat (pv 7) (pe_lst (pa_cons (pv 8) pa_nil))) pa_nil)))) pa_nil)))))
     pss_nil))))
     (pss_one (ps_aug (i := 6) sc_search.nd rfl (Or.inl rfl) pe_int ip_add))))))
     (pss_one (ps_ret pe_non)))))), ?_⟩
  obtain ⟨v1, v2, m, m', rfl, hM, hM', wf, wf', hk, kn, ks⟩ := h
  obtain ⟨a, b, d, rs, rfl, ha, hb, hrs, hd⟩ := id hM
  obtain ⟨a', b', d', rs', rfl, ha', hb', hrs', hd'⟩ := id hM'
  refine ⟨_, rfl, _, rfl, by decide, fun l0 hl0 => ⟨sz3, fun t0 ht0 => ⟨sz1, fun r0 hr0 => ?_⟩⟩⟩
  have el := Ex.new (o := HO.lst []) hl0
  have et := Ex.new (o := HO.tup [nv 0, nv 0, .ref l0]) ht0
  have er := Ex.new (o := HO.lst [.ref t0]) hr0
  have e1 := (el.trans et).trans er
  have hr0H : H r0 = none := fresh_back (el.trans et) hr0
  have hr1 : upd (upd (upd H l0 (.lst [])) t0 (.tup [nv 0, nv 0, .ref l0])) r0 (.lst [.ref t0]) r0 = some (.lst [.ref t0]) := upd_same
  have hrow1 : RowR (upd (upd (upd H l0 (.lst [])) t0 (.tup [nv 0, nv 0, .ref l0])) r0 (.lst [.ref t0])) r0 (.ref t0) (0, 0, []) := ⟨t0, l0, rfl, er t0 _ upd_same, (et.trans er) l0 _ upd_same, ne_of_none (et l0 _ upd_same) hr0⟩
  refine fun sd hsd => ?_
  generalize upd (upd (upd H l0 (.lst [])) t0 (.tup [nv 0, nv 0, .ref l0])) r0 (.lst [.ref t0]) = H1 at *
  have hsdH : H sd = none := fresh_back e1 hsd
  have e2 : Ex H1 (upd H1 sd (.dT [])) := Ex.new hsd
  refine ⟨_, rfl, _, rfl, sz2, fun tp htp => ?_⟩
  have e3 : Ex (upd H1 sd (.dT [])) (upd (upd H1 sd (.dT [])) tp (.tup [nv 0, nv 0])) := Ex.new htp
  refine ⟨tp, wk [0, 0], rfl, by rw [wk_kV]; exact upd_same, e3 sd _ upd_same, ?_⟩
  have hnrs : r0 ≠ sd := ne_of_none hr1 hsd
  have hsd3 := e3 sd _ upd_same
  have e13 := e1.trans (e2.trans e3)
  have hr3 := (e2.trans e3) r0 _ hr1
  have hrow3 := hrow1.ex (e2.trans e3)
  generalize upd (upd H1 sd (.dT [])) tp (.tup [nv 0, nv 0]) = H3 at *
  have hsd4 : upd H3 sd (.dT [(wk [0, 0], .bl true)]) sd = some (.dT (kdU (prs [(0, 0, [])]))) := upd_same
  refine ⟨fun mm σ H4 => ∃ (s2 s3 s7 s8 s9 : Option V) (i : Nat) (rows : List Mai.Mach.SRow), mm = 1000 - i ∧ σ = [some (V.ref a), some (V.ref a'), s2, s3, some (V.ref r0), some (V.ref sd), some (nv i), s7, s8, s9] ∧ Ex H H4 ∧ (∃ vs, H4 r0 = some (.lst vs) ∧ Als (RowR H4 r0) vs rows) ∧ H4 sd = some (.dT (kdU (prs rows))) ∧ Mai.Mach.SrOk m m' rows ∧ i ≤ rows.length ∧ Mai.Mach.srLoop m m' (1000 - i) i rows = Mai.Mach.search m m',
    ⟨1000, _, _, _, _, _, 0, [(0, 0, [])], rfl, rfl, Ex.mut e13 hsdH, ⟨[.ref t0], by rw [upd_ne hnrs]; exact hr3, Als.one (hrow3.ud hsd3)⟩, hsd4, Mai.Mach.sr_start wf wf', Nat.zero_le _, rfl⟩, ?_⟩
  rintro mm σ H4 ⟨s2, s3, s7, s8, s9, i, rows, rfl, rfl, e4, ⟨vs, hvs, als⟩, hsd5, ok, hi, hloop⟩
  have hlen := sr_len wf wf' ok
  refine ⟨_, rfl, _, rfl, r0, _, rfl, .inl (SqL.of hvs), _, _, rfl, rfl, _, rfl, ?_⟩
  rw [als.len]
  obtain ⟨f, hf⟩ : ∃ f, 1000 - i = f + 1 := ⟨999 - i, by omega⟩
  have hl1 : Mai.Mach.srLoop m m' (1000 - i) i rows = match rows[i]? with
    | none => none
    | some x => if m.at_ x.1 ≠ m'.at_ x.2.1 then some x.2.2 else Mai.Mach.srLoop m m' f (i + 1) ((List.range m.k).foldl (Mai.Mach.srPut m m' x) rows) := by rw [hf]; rfl
  by_cases c1 : i < rows.length
  · obtain ⟨x, hx⟩ : ∃ x, rows[i]? = some x := ⟨rows[i], List.getElem?_eq_getElem c1⟩
    rw [hx] at hl1
    obtain ⟨g1, g2, g3, g4, g5, g6⟩ := ok.row i x hx
    obtain ⟨v, hv, t, l, rfl, ht, hl, hlr⟩ := als.get hx
    have hf2 : f = 1000 - (i + 1) := by omega
    refine iteP (decide_eq_true (by omega)) ⟨fun σ' H' => ∃ (s2 s3 s7 s8 s9 : Option V) (rows : List Mai.Mach.SRow), σ' = [some (V.ref a), some (V.ref a'), s2, s3, some (V.ref r0), some (V.ref sd), some (nv (i + 1)), s7, s8, s9] ∧ Ex H H' ∧ (∃ vs, H' r0 = some (.lst vs) ∧ Als (RowR H' r0) vs rows) ∧ H' sd = some (.dT (kdU (prs rows))) ∧ Mai.Mach.SrOk m m' rows ∧ i + 1 ≤ rows.length ∧ Mai.Mach.srLoop m m' (1000 - (i + 1)) (i + 1) rows = Mai.Mach.search m m', ?_, ?_⟩
    · rintro σ' H' ⟨s2, s3, s7, s8, s9, rows', h1, h2, h3, h4, h5, h6, h7⟩
      exact ⟨1000 - (i + 1), by omega, s2, s3, s7, s8, s9, i + 1, rows', rfl, h1, h2, h3, h4, h5, h6, h7⟩
    refine ⟨_, rfl, _, rfl, r0, _, _, _, rfl, rfl, SqL.of hvs, at_nat rfl hv, t, _, rfl, SqT.of ht, rfl, _, _, rfl, _, _, rfl, _, _, rfl, rfl, ?_⟩
    refine ⟨_, rfl, a, _, _, _, rfl, rfl, SqT.of (e4 a _ ha), at_nat (j := 3) rfl rfl, _, rfl, d, _, _, _, rfl, rfl, sqT_rd ((tk_ex e4).rd hd), at_nat rfl (nvs_get (at_get g1)), _, rfl, a', _, _, _, rfl, rfl, SqT.of (e4 a' _ ha'), at_nat (j := 3) rfl rfl, _, rfl, d', _, _, _, rfl, rfl, sqT_rd ((tk_ex e4).rd hd'), at_nat rfl (nvs_get (at_get g2)), rfl, _, rfl, ?_⟩
    by_cases c2 : m.at_ x.1 = m'.at_ x.2.1
    · refine iteN (nd_f (congrArg nv c2)) ?_
      have hl2 : Mai.Mach.search m m' = Mai.Mach.srLoop m m' f (i + 1) ((List.range m.k).foldl (Mai.Mach.srPut m m' x) rows) := by
        rw [← hloop, hl1]
        exact if_neg (fun z => z c2)
      have hk4 := wf.k4
      refine ⟨_, rfl, a, _, _, _, rfl, rfl, SqT.of (e4 a _ ha), at_nat (j := 0) rfl rfl, _, rfl, by omega, by omega, for_range (fun j σ H5 => ∃ (s8 s9 : Option V), σ = [some (V.ref a), some (V.ref a'), some (nv x.1), some (nv x.2.1), some (V.ref r0), some (V.ref sd), some (nv i), some (V.ref l), s8, s9] ∧ Ex H H5 ∧ H5 l = some (.lst (nvs x.2.2)) ∧ (∃ vs, H5 r0 = some (.lst vs) ∧ Als (RowR H5 r0) vs ((List.range j).foldl (Mai.Mach.srPut m m' x) rows)) ∧ H5 sd = some (.dT (kdU (prs ((List.range j).foldl (Mai.Mach.srPut m m' x) rows)))))
        ⟨_, _, rfl, e4, hl, ⟨vs, hvs, als⟩, hsd5⟩ ?_ ?_⟩
      · rintro j σ H5 hj ⟨s8, s9, rfl, e5, hl5, ⟨us, hus, alu⟩, hsd6⟩
        have hjk : j < m.k := by omega
        have hjk' : j < m'.k := by rw [← hk]; exact hjk
        obtain ⟨okj, _, _⟩ := Mai.Mach.srFold wf wf' hk (List.range j) ok hx fun q hq => by have := List.mem_range.mp hq; omega
        have hlenj := sr_len wf wf' okj
        have hstep : (List.range (j + 1)).foldl (Mai.Mach.srPut m m' x) rows = Mai.Mach.srPut m m' x ((List.range j).foldl (Mai.Mach.srPut m m' x) rows) j := by rw [List.range_succ, List.foldl_append]; rfl
        rw [hstep]
        generalize (List.range j).foldl (Mai.Mach.srPut m m' x) rows = rj at *
        obtain ⟨q1, q2⟩ := step_get wf g1 hjk
        obtain ⟨q1', q2'⟩ := step_get wf' g2 hjk'
        obtain ⟨x2, hx2, a2, rfl, ha2⟩ := hrs.get (row_get wf g1)
        obtain ⟨x2', hx2', a2', rfl, ha2'⟩ := hrs'.get (row_get wf' g2)
        refine ⟨_, rfl, a, _, _, _, rfl, rfl, SqT.of (e5 a _ ha), at_nat (j := 2) rfl rfl, _, rfl, b, _, _, _, rfl, rfl, SqT.of (e5 b _ hb), at_nat rfl hx2, _, rfl, a2, _, _, _, rfl, rfl, SqT.of (e5 a2 _ ha2), at_nat (by omega) (nvs_get q1), ?_⟩
        refine ⟨_, rfl, a', _, _, _, rfl, rfl, SqT.of (e5 a' _ ha'), at_nat (j := 2) rfl rfl, _, rfl, b', _, _, _, rfl, rfl, SqT.of (e5 b' _ hb'), at_nat rfl hx2', _, rfl, a2', _, _, _, rfl, rfl, SqT.of (e5 a2' _ ha2'), at_nat (by omega) (nvs_get q1'), sz2, fun tq htq => ?_⟩
        have e6 : Ex H5 (upd H5 tq (.tup [nv (m.step x.1 j), nv (m'.step x.2.1 j)])) := Ex.new htq
        have htq6 : upd H5 tq (.tup [nv (m.step x.1 j), nv (m'.step x.2.1 j)]) tq = some (.tup (nvs [m.step x.1 j, m'.step x.2.1 j])) := upd_same
        have hus6 := e6 r0 _ hus
        have alu6 := alu.mono fun _ _ _ q => q.ex e6
        have hsd7 := e6 sd _ hsd6
        have hl6 := e6 l _ hl5
        have e06 := e5.trans e6
        generalize upd H5 tq (.tup [nv (m.step x.1 j), nv (m'.step x.2.1 j)]) = H6 at *
        have hget : DGet H6 sd (.ref tq) (if [m.step x.1 j, m'.step x.2.1 j] ∈ prs rj then some (.bl true) else none) := by
          rw [← kdU_val]
          exact .inr ⟨_, wk [m.step x.1 j, m'.step x.2.1 j], tq, .inl hsd7, rfl, by rw [wk_kV]; exact htq6, rfl⟩
        refine ⟨_, rfl, _, rfl, sd, _, rfl, hget, _, rfl, ?_⟩
        by_cases c3 : (m.step x.1 j, m'.step x.2.1 j) ∈ Mai.Mach.pairs rj
        · have hput : Mai.Mach.srPut m m' x rj j = rj := by unfold Mai.Mach.srPut; rw [if_pos c3]
          refine iteN (by rw [if_pos (prs_mem.mpr c3)]; rfl) ⟨_, _, rfl, e06, hl6, ?_⟩
          rw [hput]
          exact ⟨⟨us, hus6, alu6⟩, hsd7⟩
        · have c4 : [m.step x.1 j, m'.step x.2.1 j] ∉ prs rj := fun z => c3 (prs_mem.mp z)
          have hput : Mai.Mach.srPut m m' x rj j = rj ++ [(m.step x.1 j, m'.step x.2.1 j, x.2.2 ++ [j])] := by unfold Mai.Mach.srPut; rw [if_neg c3]
          refine iteP (by rw [if_neg c4]; rfl) ⟨_, rfl, _, rfl, sd, _, rfl, .inr ⟨kdU (prs rj), wk [m.step x.1 j, m'.step x.2.1 j], tq, hsd7, rfl, by rw [wk_kV]; exact htq6, by rw [kdU_len]; unfold prs Mai.Mach.pairs; rw [List.length_map, List.length_map]; exact szl (by omega), rfl⟩, ?_⟩
          have nls : l ≠ sd := ne_of hl6 hsd7 fun z => by cases z
          have nts : tq ≠ sd := ne_of htq6 hsd7 fun z => by cases z
          have hus7 : upd H6 sd (.dT (putK (kdU (prs rj)) (wk [m.step x.1 j, m'.step x.2.1 j]) (.bl true))) r0 = some (.lst us) := by rw [upd_ne hnrs]; exact hus6
          have alu7 := alu6.mono fun _ _ _ q => q.ud (k2 := putK (kdU (prs rj)) (wk [m.step x.1 j, m'.step x.2.1 j]) (.bl true)) hsd7
          have htq7 : upd H6 sd (.dT (putK (kdU (prs rj)) (wk [m.step x.1 j, m'.step x.2.1 j]) (.bl true))) tq = some (.tup [nv (m.step x.1 j), nv (m'.step x.2.1 j)]) := by rw [upd_ne nts]; exact htq6
          have hl7 : upd H6 sd (.dT (putK (kdU (prs rj)) (wk [m.step x.1 j, m'.step x.2.1 j]) (.bl true))) l = some (.lst (nvs x.2.2)) := by rw [upd_ne nls]; exact hl6
          have hsd8 : upd H6 sd (.dT (putK (kdU (prs rj)) (wk [m.step x.1 j, m'.step x.2.1 j]) (.bl true))) sd = some (.dT (kdU (prs (rj ++ [(m.step x.1 j, m'.step x.2.1 j, x.2.2 ++ [j])])))) := by
            rw [upd_same, kdU_put, if_neg c4]
            unfold prs
            rw [Mai.Mach.pairs_app, List.map_append]
            rfl
          have e07 := Ex.mut (o := .dT (putK (kdU (prs rj)) (wk [m.step x.1 j, m'.step x.2.1 j]) (.bl true))) e06 hsdH
          generalize upd H6 sd (.dT (putK (kdU (prs rj)) (wk [m.step x.1 j, m'.step x.2.1 j]) (.bl true))) = H7 at *
          refine ⟨_, rfl, .inl ⟨rfl, _, SqL.of hus7⟩, _, rfl, tq, _, _, _, rfl, rfl, SqT.of htq7, at_nat (j := 0) rfl rfl, _, rfl, tq, _, _, _, rfl, rfl, SqT.of htq7, at_nat (j := 1) rfl rfl, _, rfl, _, rfl, sz1, fun l1 hl1 => ?_⟩
          have e8 : Ex H7 (upd H7 l1 (.lst [.int (0 + (j : Int))])) := Ex.new hl1
          refine ⟨l, l1, _, _, rfl, rfl, e8 l _ hl7, upd_same, by rw [nvs_len]; exact szle (by show _ + 1 < _; omega), fun l2 hl2 => ⟨sz3, fun t2 ht2 => ?_⟩⟩
          have e9 : Ex H7 (upd (upd (upd H7 l1 (.lst [.int (0 + (j : Int))])) l2 (.lst (nvs x.2.2 ++ [.int (0 + (j : Int))]))) t2 (.tup [nv (m.step x.1 j), nv (m'.step x.2.1 j), .ref l2])) := (e8.trans (Ex.new hl2)).trans (Ex.new ht2)
          have hl29 : upd (upd (upd H7 l1 (.lst [.int (0 + (j : Int))])) l2 (.lst (nvs x.2.2 ++ [.int (0 + (j : Int))]))) t2 (.tup [nv (m.step x.1 j), nv (m'.step x.2.1 j), .ref l2]) l2 = some (.lst (nvs (x.2.2 ++ [j]))) := by
            rw [upd_ne (ne_of_none upd_same ht2), upd_same, nvs_app, Int.zero_add]
            rfl
          have ht29 : upd (upd (upd H7 l1 (.lst [.int (0 + (j : Int))])) l2 (.lst (nvs x.2.2 ++ [.int (0 + (j : Int))]))) t2 (.tup [nv (m.step x.1 j), nv (m'.step x.2.1 j), .ref l2]) t2 = some (.tup [nv (m.step x.1 j), nv (m'.step x.2.1 j), .ref l2]) := upd_same
          have nl2r : l2 ≠ r0 := (ne_of_none (e8 r0 _ hus7) hl2).symm
          generalize upd (upd (upd H7 l1 (.lst [.int (0 + (j : Int))])) l2 (.lst (nvs x.2.2 ++ [.int (0 + (j : Int))]))) t2 (.tup [nv (m.step x.1 j), nv (m'.step x.2.1 j), .ref l2]) = H9 at *
          have hus9 := e9 r0 _ hus7
          refine ⟨r0, us, _, rfl, rfl, hus9, by rw [alu.len]; exact szl (by omega), _, _, rfl, Ex.mut (e07.trans e9) hr0H, by rw [upd_ne hlr]; exact e9 l _ hl7, ?_⟩
          rw [hput]
          exact ⟨⟨_, upd_same, (alu7.mono fun _ _ _ q => (q.ex e9).up hus9).snoc (RowR.up ⟨t2, l2, rfl, ht29, hl29, nl2r⟩ hus9)⟩, by rw [upd_ne hnrs.symm]; exact e9 sd _ hsd8⟩
      · rintro σ H5 ⟨s8, s9, rfl, e5, hl5, hrows, hsd6⟩
        have ek : (m.k : Int).toNat = m.k := by omega
        rw [ek] at hrows hsd6
        obtain ⟨okk, ⟨y, hy⟩, _⟩ := Mai.Mach.srFold wf wf' hk (List.range m.k) ok hx fun q hq => List.mem_range.mp hq
        refine ⟨_, rfl, _, _, rfl, rfl, _, _, _, _, _, _, rfl, e5, hrows, hsd6, okk, ?_, ?_⟩
        · rw [hy, List.length_append]; omega
        · rw [hl2, hf2]
    · refine iteP (nd_t fun z => c2 (nv_inj z)) ⟨_, rfl, ks x.2.2 ?_ H4 l e4 hl⟩
      rw [← hloop, hl1]
      exact if_pos c2
  · refine iteN (decide_eq_false (by omega)) (kn ?_ H4 e4)
    rw [List.getElem?_eq_none (by omega)] at hl1
    rw [← hloop, hl1]
end
end MW
/-! ## W12 -/
namespace MW
open PySem PySem.Spec PyProof.Rows L2 Evl
def cpairs (n n' : Nat) : List (List Nat) := (List.range n).flatMap fun s => (List.range n').map fun t => [s, t]
def ldP (m m' : Mai.Mach) (j : Nat) (p : List Nat) : Bool := Mai.Mach.lead m m' j (p.getD 0 0) (p.getD 1 0)
def ldD (m m' : Mai.Mach) (j : Nat) (l : List (List Nat)) : List (List Key × V) := kd V.bl (l.map fun p => (p, ldP m m' j p))
theorem cp_mem {n n' s t : Nat} : [s, t] ∈ cpairs n n' ↔ s < n ∧ t < n' := by
  unfold cpairs
  rw [List.mem_flatMap]
  constructor
  · rintro ⟨a, ha, h⟩
    rw [List.mem_map] at h
    obtain ⟨b, hb, e⟩ := h
    simp at e ha hb
    omega
  · rintro ⟨h1, h2⟩
    exact ⟨s, List.mem_range.mpr h1, List.mem_map.mpr ⟨t, List.mem_range.mpr h2, rfl⟩⟩
theorem cp_get {n n' : Nat} {p : List Nat} (h : p ∈ cpairs n n') : ∃ s t, p = [s, t] ∧ s < n ∧ t < n' := by
  unfold cpairs at h
  rw [List.mem_flatMap] at h
  obtain ⟨a, ha, h⟩ := h
  rw [List.mem_map] at h
  obtain ⟨b, hb, e⟩ := h
  exact ⟨a, b, e.symm, List.mem_range.mp ha, List.mem_range.mp hb⟩
theorem cp_len (n n' : Nat) : (cpairs n n').length = n * n' := by
  unfold cpairs
  rw [Mai.flat_len (n := n') _ fun x _ => by simp, List.length_range]
theorem nd_append {α : Type} : ∀ {l r : List α}, l.Nodup → r.Nodup → (∀ x ∈ l, x ∉ r) → (l ++ r).Nodup
  | [], r, _, h, _ => h
  | a :: l, r, h1, h2, h3 => by
    rw [List.nodup_cons] at h1
    rw [List.cons_append, List.nodup_cons]
    refine ⟨fun z => ?_, nd_append h1.2 h2 fun x hx => h3 x (List.mem_cons_of_mem _ hx)⟩
    rcases List.mem_append.mp z with z | z
    · exact h1.1 z
    · exact h3 a List.mem_cons_self z
theorem nd_mapi {α β : Type} (f : α → β) (inj : ∀ x y, f x = f y → x = y) : ∀ {l : List α}, l.Nodup → (l.map f).Nodup
  | [], _ => List.nodup_nil
  | a :: l, h => by
    rw [List.nodup_cons] at h
    rw [List.map_cons, List.nodup_cons]
    refine ⟨fun z => ?_, nd_mapi f inj h.2⟩
    obtain ⟨y, hy, e⟩ := List.mem_map.mp z
    exact h.1 (by rw [← inj y a e]; exact hy)
theorem cp_nodup (n n' : Nat) : (cpairs n n').Nodup := by
  unfold cpairs
  induction n with
  | zero => exact List.nodup_nil
  | succ n ih =>
    rw [List.range_succ, List.flatMap_append]
    refine nd_append ih ?_ ?_
    · simp only [List.flatMap_cons, List.flatMap_nil, List.append_nil]
      exact nd_mapi _ (fun x y e => by simp at e; exact e) List.nodup_range
    · intro x hx hy
      obtain ⟨s, t, e, hs, _⟩ := cp_get (n := n) (n' := n') hx
      simp only [List.flatMap_cons, List.flatMap_nil, List.append_nil, List.mem_map] at hy
      obtain ⟨t', _, e'⟩ := hy
      rw [e] at e'
      simp at e'
      omega
theorem find_mapG {α : Type} (l : List (List Nat)) (f : List Nat → α) (w : List Nat) : ((l.map fun w => (w, f w)).find? fun p => decide (p.1 = w)) = if w ∈ l then some (w, f w) else none := by
  induction l with
  | nil => simp
  | cons v ws ih =>
    rw [List.map_cons, List.find?_cons]
    by_cases e : v = w
    · simp [e]
    · have : ¬ w = v := fun z => e z.symm
      simp only [e, decide_false, ih, List.mem_cons, this, false_or]
theorem ldD_val (m m' : Mai.Mach) (j : Nat) (l : List (List Nat)) {w : List Nat} (h : w ∈ l) : valV (ldD m m' j l) (wk w) = some (.bl (ldP m m' j w)) := by
  unfold ldD
  rw [kd_val, find_mapG, if_pos h]
  rfl
structure ChoAt (c : Cs) (H : Hp) (x al : Addr) (m m' : Mai.Mach) (L : Nat) : Prop where
  ob : ∃ dx v1 v2, H x = some (.ins c.Choices dx (fl_Choices.zip [v1, v2, .ref al])) ∧ MA H v1 m ∧ MA H v2 m'
  ls : ∃ ds, H al = some (.lst ds) ∧ ds.length = L ∧ ∀ (j : Nat) d, ds[j]? = some d → ∃ a, d = .ref a ∧ H a = some (.dT (ldD m m' j (cpairs m.n m'.n)))
theorem ChoAt.keep {c : Cs} {H H' : Hp} {x al : Addr} {m m' : Mai.Mach} {L : Nat} {Z : Addr → Prop} (h : ChoAt c H x al m m' L) (t : Tk H H') (b : But Z H H') (hz : ∀ a o, Z a → H a = some o → ∃ xs, o = .lst xs) (hal : ¬ Z al) : ChoAt c H' x al m m' L := by
  obtain ⟨⟨dx, v1, v2, h1, h2, h3⟩, ds, h4, h5, h6⟩ := h
  refine ⟨⟨dx, v1, v2, b x _ (fun z => ?_) h1, h2.keep t, h3.keep t⟩, ds, b al _ hal h4, h5, fun j d hd => ?_⟩
  · obtain ⟨xs, e⟩ := hz x _ z h1
    cases e
  · obtain ⟨a, e, ha⟩ := h6 j d hd
    refine ⟨a, e, b a _ (fun z => ?_) ha⟩
    obtain ⟨xs, e⟩ := hz a _ z ha
    cases e
theorem ChoAt.ex {c : Cs} {H H' : Hp} {x al : Addr} {m m' : Mai.Mach} {L : Nat} (h : ChoAt c H x al m m' L) (e : Ex H H') : ChoAt c H' x al m m' L :=
  h.keep (Z := fun _ => False) (tk_ex e) (fun a o _ ha => e a o ha) (fun _ _ z => z.elim) fun z => z
def sp_Choices_init (P : Program) (w : World) (K : PySem.W.Frag) (c : Cs) : Sp := fun vs H Q _ => ∃ (x dx : Addr) (v1 v2 : V) (m m' : Mai.Mach), vs = [.ref x, v1, v2] ∧ H x = some (.ins c.Choices dx []) ∧ MA H v1 m ∧ MA H v2 m' ∧ m.WF ∧ m'.WF ∧
  ∀ H' al, H al = none → ChoAt c H' x al m m' 1 → But (fun a => a = x) H H' → Q .non H'
def sp_Choices__extend (P : Program) (w : World) (K : PySem.W.Frag) (c : Cs) : Sp := fun vs H Q _ => ∃ (x al : Addr) (m m' : Mai.Mach) (L : Nat), vs = [.ref x] ∧ ChoAt c H x al m m' (L + 1) ∧ m.WF ∧ m'.WF ∧ m.k = m'.k ∧ L ≤ 100 ∧
  ∀ H', ChoAt c H' x al m m' (L + 2) → Tk H H' → But (fun a => a = al) H H' → Q .non H'
/-- a new list of numbers, apart from fl -/
def LWn (H0 H : Hp) (fl : Addr) (v : V) (wd : List Nat) : Prop := ∃ a, v = .ref a ∧ H a = some (.lst (nvs wd)) ∧ H0 a = none ∧ a ≠ fl
theorem LWn.keep {H0 H H' : Hp} {fl : Addr} {v : V} {wd : List Nat} (h : LWn H0 H fl v wd) (b : But (fun a => a = fl) H H') : LWn H0 H' fl v wd := let ⟨a, e, h1, h2, h3⟩ := h; ⟨a, e, b a _ h3 h1, h2, h3⟩
def spFind (P : Program) (w : World) (K : PySem.W.Frag) (c : Cs) (n : Nat) : Sp := fun vs H Q _ => ∃ (x al fl : Addr) (wv pv : V) (m m' : Mai.Mach) (L most : Nat) (H0 : Hp) (wd : List Nat) (s t : Nat) (us : List V) (found : List (List Nat)), vs = [.ref x, wv, pv, nv n, .ref fl, nv most] ∧ ChoAt c H x al m m' L ∧ m.WF ∧ m'.WF ∧ m.k = m'.k ∧ n < L ∧ al ≠ fl ∧ (∀ a, H a = none → H0 a = none) ∧ LWn H0 H fl wv wd ∧ wd.length ≤ 1000 - n ∧ n ≤ 500 ∧ TW H pv [s, t] ∧ s < m.n ∧ t < m'.n ∧ H fl = some (.lst us) ∧ Als (LWn H0 H fl) us found ∧ most ≤ 60 ∧ found.length ≤ 60 ∧
  ∀ H' us', Tk H H' → But (fun a => a = fl) H H' → H' fl = some (.lst us') → Als (LWn H0 H' fl) us' (Mai.Mach.findP m m' most n wd s t found) → Q .non H'
def sp_Choices__find (P : Program) (w : World) (K : PySem.W.Frag) (c : Cs) : Sp := fun vs H Q E => ∃ n, n ≤ 58 ∧ spFind P w K c n vs H Q E
def sp_Choices_words (P : Program) (w : World) (K : PySem.W.Frag) (c : Cs) : Sp := fun vs H Q _ => ∃ (x al : Addr) (m m' : Mai.Mach) (L len most : Nat), vs = [.ref x, nv len, nv most] ∧ ChoAt c H x al m m' (L + 1) ∧ m.WF ∧ m'.WF ∧ m.k = m'.k ∧ L ≤ 60 ∧ len ≤ 58 ∧ most ≤ 60 ∧
  ∀ H' r us L', ChoAt c H' x al m m' (L' + 1) → L' ≤ 60 → Tk H H' → But (fun a => a = al) H H' → H r = none → H' r = some (.lst us) → Als (fun v wd => ∃ a, v = .ref a ∧ H' a = some (.lst (nvs wd)) ∧ H a = none) us (Mai.Mach.wordsP m m' len most) → Q (.ref r) H'
/-! ### the honest box -/
structure BoxAt (c : Cs) (H : Hp) (x pk : Addr) (m : Mai.Mach) (ps : List Nat) : Prop where
  ob : ∃ dx mv u, H x = some (.ins c.Honest dx (fl_Honest.zip [mv, .ref pk, nv u])) ∧ MA H mv m ∧ H pk = some (.lst (nvs ps))
def sp_Honest_init (P : Program) (w : World) (K : PySem.W.Frag) (c : Cs) : Sp := fun vs H Q _ => ∃ (x dx pl : Addr) (mv : V) (m : Mai.Mach) (ps : List Nat), vs = [.ref x, mv, .ref pl] ∧ H x = some (.ins c.Honest dx []) ∧ MA H mv m ∧ m.WF ∧ H pl = some (.lst (nvs ps)) ∧
  ∀ H' pk, BoxAt c H' x pk m ps → H pk = none → But (fun a => a = x) H H' → Q .non H'
def sp_Honest__next_pick (P : Program) (w : World) (K : PySem.W.Frag) (c : Cs) : Sp := fun vs H Q _ => ∃ (x pk : Addr) (m : Mai.Mach) (ps : List Nat), vs = [.ref x] ∧ BoxAt c H x pk m ps ∧ ps.length ≤ 100 ∧
  ∀ H' k, BoxAt c H' x pk m ps → Tk H H' → But (fun a => a = x) H H' → Q (nv k) H'
def sp_Honest_judge (P : Program) (w : World) (K : PySem.W.Frag) (c : Cs) : Sp := fun vs H Q _ => ∃ (x pk : Addr) (pv : V) (m m' : Mai.Mach) (ps : List Nat), vs = [.ref x, pv] ∧ BoxAt c H x pk m ps ∧ ps.length ≤ 100 ∧ MA H pv m' ∧ m.WF ∧ m'.WF ∧ m.k = m'.k ∧ m.o = m'.o ∧ m.n ≤ 6 ∧ m'.n ≤ 7 ∧
  (Mai.Mach.Eqv m 0 m' 0 → ∀ H', Ex H H' → Q .non H') ∧
  ∀ H' r wd, BoxAt c H' x pk m ps → Tk H H' → But (fun a => a = x) H H' → H r = none → H' r = some (.lst (nvs wd)) → Mai.okw m.k wd → wd.length ≤ 300 → m.out 0 wd ≠ m'.out 0 wd → Q (.ref r) H'
end MW
/-! ## P9 -/
namespace MW
open PySem PySem.Spec PyProof.Rows L2 Evl
section
variable {P : Program} {w : World} {K : PySem.W.Frag} {mg : Str → Option Value} {base : Heap} {c : Cs}
theorem cx_put {c : Cs} {H : Hp} {p dx : Addr} {n : Nat} {f : Str} {v : V} {vs : List V} (hf : fl_Choices[n]? = some f) (hn : n = vs.length) : upd H p (.ins c.Choices dx (putF f v (fl_Choices.zip vs))) p = some (.ins c.Choices dx (fl_Choices.zip (vs ++ [v]))) := by rw [upd_same, zip_end nd_Choices hf hn]
theorem but_upd {H : Hp} {p : Addr} {o : HO} : But (fun a => a = p) H (upd H p o) := fun a u na h => by rw [upd_ne na]; exact h
theorem but_ex {H H1 H2 : Hp} {Z : Addr → Prop} (b : But Z H H1) (e : Ex H1 H2) : But Z H H2 := fun a o na h => e a o (b a o na h)
theorem ex_but' {H H1 H2 : Hp} {Z : Addr → Prop} (e : Ex H H1) (b : But Z H1 H2) : But Z H H2 := fun a o na h => b a o na (e a o h)
theorem but_tr {H H1 H2 : Hp} {Z : Addr → Prop} (a : But Z H H1) (b : But Z H1 H2) : But Z H H2 := fun x o nx h => b x o nx (a x o nx h)
theorem tk_ins {H : Hp} {p : Addr} {C dx : Addr} {fs : List (Str × V)} {o : HO} (h : H p = some (.ins C dx fs)) : Tk H (upd H p o) := tk_upd h fun z => z
theorem ok_Choices_init {f : Addr} {fd : FuncData} (T : Tx K mg c)  (F : FnP K "__init__" "Choices.__init__" s_Choices_init f fd) : FnOk P w K mg base CX0 1 f fd p_Choices_init (sp_Choices_init P w K c) := by
  refine F.ok sc_Choices_init (fun vs H Q E h => by obtain ⟨_, _, _, _, _, _, rfl, _⟩ := h; rfl) (fun cdv A outer s H vs Q E hr h => ?_)
  refine ⟨_, PSs.nox (pss_cons (ps_fld (pv 0) (pv 1) rfl)
     (pss_cons (ps_fld (pv 0) (pv 2) rfl)
     (pss_cons (ps_setLc2 (i := 3) (own := [("s", 4), ("t", 5)]) (vs1 := [5]) (wi1 := (iRng1 (tCons (tCB (rLenQ K) (tCons (tOp (rIxT K) (tVar 2) (tC (.int 3))) tNil)) tNil))) (te := (tTup (tCons (tVar 4) (tCons (tVar 5) tNil)))) rfl sc_Choices_init.nd rfl rfl (sw_true rfl rfl rfl (by decide +kernel)) (pi_range1 (by rfl) T.b_range (pa_cons (pe_callB call_len_seq (by rfl) T.b_len PySem.boot_len (pa_cons (pe_ix ix_tup (pv 1) pe_int (fun _ _ => rfl)) pa_nil)) pa_nil)) (blkOk_by (N := N_Choices_init) (sc := (defScope s_Choices_init)) (by decide +kernel)) (by decide) (fun _ _ _ _ _ => (pg_name (i := 4) sc_Choices_init.nd rfl (Or.inl rfl))) (fun _ _ _ _ _ => pts_nil) (fun _ _ _ _ _ => (pi_range1 (by rfl) T.b_range (pa_cons (pe_callB call_len_seq (by rfl) T.b_len PySem.boot_len (pa_cons (pe_ix ix_tup (pv 2) pe_int (fun _ _ => rfl)) pa_nil)) pa_nil))) (fun _ _ _ _ _ => (pg_name (i := 5) sc_Choices_init.nd rfl (Or.inl rfl))) (fun _ _ _ _ _ => pts_nil) (fun _ _ _ _ _ => (pe_tup (pa_cons (pv 4) (pa_cons (pv 5) pa_nil)))))
     (pss_one (ps_fld (pv 0) (pe_lst (pa_cons (pe_dcT (own := [("pair", 6)]) (tk := (tVar 6)) (tv := (tOp rNe (tOp (rIxT K) (tOp (rIxT K) (tVar 1) (tC (.int 3))) (tOp (rIxT K) (tVar 6) (tC (.int 0)))) (tOp (rIxT K) (tOp (rIxT K) (tVar 2) (tC (.int 3))) (tOp (rIxT K) (tVar 6) (tC (.int 1)))))) hr.units0 (by rfl) sc_Choices_init.nd (pi_list (pv 3)) (blkOk_by (N := N_Choices_init) (sc := (defScope s_Choices_init)) (by decide +kernel)) (fun _ _ _ _ _ => (pg_name (i := 6) sc_Choices_init.nd rfl (Or.inl rfl))) (fun _ _ _ _ _ => (pv 6)) (fun _ _ _ _ _ => (pe_cmpR op_ne (pe_ix ix_tup (pe_ix ix_tup (pv 1) pe_int (fun _ _ => rfl)) (pe_ix ix_tup (pv 6) pe_int (fun _ _ => rfl)) (fun _ _ => rfl)) (pe_ix ix_tup (pe_ix ix_tup (pv 2) pe_int (fun _ _ => rfl)) (pe_ix ix_tup (pv 6) pe_int (fun _ _ => rfl)) (fun _ _ => rfl)) (by rfl)))) pa_nil)) rfl))))), ?_⟩
  obtain ⟨x, dx, v1, v2, m, m', rfl, hx, hM, hM', wf, wf', kq⟩ := h
  replace hx : H x = some (.ins c.Choices dx (fl_Choices.zip [])) := hx
  refine ⟨_, rfl, _, rfl, fput T.fX (i := 0) hx rfl ?_⟩
  have ob1 := cx_put (c := c) (H := H) (p := x) (dx := dx) (n := 0) (f := "_first") (v := v1) (vs := []) rfl rfl
  have t1 := tk_ins (o := .ins c.Choices dx (putF "_first" v1 (fl_Choices.zip []))) hx
  have b1 : But (fun a => a = x) H (upd H x (.ins c.Choices dx (putF "_first" v1 (fl_Choices.zip [])))) := but_upd
  generalize upd H x (.ins c.Choices dx (putF "_first" v1 (fl_Choices.zip []))) = H1 at *
  refine ⟨_, rfl, _, rfl, fput T.fX (i := 1) ob1 rfl ?_⟩
  have ob2 := cx_put (c := c) (H := H1) (p := x) (dx := dx) (n := 1) (f := "_second") (v := v2) (vs := [] ++ [v1]) rfl rfl
  have t2 := t1.trans (tk_ins (o := .ins c.Choices dx (putF "_second" v2 (fl_Choices.zip ([] ++ [v1])))) ob1)
  have b2 : But (fun a => a = x) H (upd H1 x (.ins c.Choices dx (putF "_second" v2 (fl_Choices.zip ([] ++ [v1]))))) := but_tr b1 but_upd
  generalize upd H1 x (.ins c.Choices dx (putF "_second" v2 (fl_Choices.zip ([] ++ [v1])))) = H2 at *
  have hM2 := hM.keep t2
  have hM2' := hM'.keep t2
  obtain ⟨a, b, d, rs, rfl, ha, hb, hrs, hd⟩ := id hM2
  obtain ⟨a', b', d', rs', rfl, ha', hb', hrs', hd'⟩ := id hM2'
  have n30 : m.n ≤ 30 := wf.n30
  have n30' : m'.n ≤ 30 := wf'.n30
  have hnl : (nvs m.ou).length = m.n := nvs_len _
  have hnl' : (nvs m'.ou).length = m'.n := nvs_len _
  -- the pairs
  refine ⟨_, rfl, a, _, _, _, rfl, rfl, SqT.of ha, at_nat (j := 3) rfl rfl, d, _, rfl, .inr (sqT_rd hd), _, rfl, by omega, by omega, fun D hD => ?_⟩
  refine ⟨fun i k H3 => k = m.n - i ∧ i ≤ m.n ∧ Ex H2 H3 ∧ ∃ acc, H3 D = some (.lst acc) ∧ Als (TW H3) acc ((List.range i).flatMap fun s => (List.range m'.n).map fun t => [s, t]), ⟨m.n, rfl, Nat.zero_le _, Ex.new hD, [], upd_same, Als.nil⟩, ?_⟩
  rintro i k H3 ⟨rfl, hi, e3, acc, hacc, als⟩
  by_cases ci : i < m.n
  · refine .inr ⟨by show i < _; omega, fun H4 => Ex H2 H4 ∧ ∃ acc, H4 D = some (.lst acc) ∧ Als (TW H4) acc ((List.range (i + 1)).flatMap fun s => (List.range m'.n).map fun t => [s, t]), ?_, ?_⟩
    · rintro H4 ⟨h1, h2⟩
      exact ⟨m.n - (i + 1), by omega, rfl, ci, h1, h2⟩
    rintro z H4 ⟨rfl, rfl⟩
    refine ⟨rfl, ?_⟩
    refine ⟨_, rfl, a', _, _, _, rfl, rfl, SqT.of (e3 a' _ ha'), at_nat (j := 3) rfl rfl, d', _, rfl, .inr (sqT_rd ((tk_ex e3).rd hd')), _, rfl, by omega, by omega, ?_⟩
    refine ⟨fun j k H4 => k = m'.n - j ∧ j ≤ m'.n ∧ Ex H2 H4 ∧ ∃ acc, H4 D = some (.lst acc) ∧ Als (TW H4) acc (((List.range i).flatMap fun s => (List.range m'.n).map fun t => [s, t]) ++ (List.range j).map fun t => [i, t]), ⟨m'.n, rfl, Nat.zero_le _, e3, acc, hacc, by rw [List.range_zero, List.map_nil, List.append_nil]; exact als⟩, ?_⟩
    rintro j k H5 ⟨rfl, hj, e5, acc5, hacc5, als5⟩
    by_cases cj : j < m'.n
    · refine .inr ⟨by show j < _; omega, fun H6 => Ex H2 H6 ∧ ∃ acc, H6 D = some (.lst acc) ∧ Als (TW H6) acc (((List.range i).flatMap fun s => (List.range m'.n).map fun t => [s, t]) ++ (List.range (j + 1)).map fun t => [i, t]), ?_, ?_⟩
      · rintro H6 ⟨h1, h2⟩
        exact ⟨m'.n - (j + 1), by omega, rfl, cj, h1, h2⟩
      rintro z H6 ⟨rfl, rfl⟩
      refine ⟨rfl, ?_⟩
      refine ⟨_, rfl, _, rfl, sz2, fun tp htp => ⟨acc5, (Ex.new htp) D _ hacc5, ?_, ?_⟩⟩
      · rw [als5.len, List.length_append, List.length_map, List.length_range]
        have h1 : ((List.range i).flatMap fun s => (List.range m'.n).map fun t => [s, t]).length = i * m'.n := cp_len i m'.n
        rw [h1]
        have : i * m'.n ≤ 30 * 30 := Nat.mul_le_mul (by omega) n30'
        exact szl (by omega)
      · refine ⟨Ex.mut (e5.trans (Ex.new htp)) hD, _, upd_same, ?_⟩
        rw [range_map_snoc, ← List.append_assoc]
        refine (als5.mono fun _ _ _ q => (q.keep (tk_new htp)).keep (tk_upd ((Ex.new htp) D _ hacc5) fun z => z)).snoc ⟨tp, rfl, ?_⟩
        rw [upd_ne (fun z => by rw [z, hacc5] at htp; cases htp), upd_same]
        show _ = some (HO.tup [nv i, nv j])
        congr 2
        show [V.int (0 + (i : Int)), V.int (0 + (j : Int))] = _
        rw [Int.zero_add, Int.zero_add]
        rfl
    · have ej : j = m'.n := by omega
      subst ej
      refine .inl ⟨by show _ ≤ m'.n; omega, e5, acc5, hacc5, ?_⟩
      rw [List.range_succ, List.flatMap_append]
      simp only [List.flatMap_cons, List.flatMap_nil, List.append_nil]
      exact als5
  have ei : i = m.n := by omega
  subst ei
  refine .inl ⟨by show _ ≤ m.n; omega, ?_⟩
  -- the first dict
  have hcl : acc.length = m.n * m'.n := by rw [als.len]; exact cp_len m.n m'.n
  have hc900 : m.n * m'.n ≤ 30 * 30 := Nat.mul_le_mul n30 n30'
  refine ⟨_, rfl, D, rfl, ⟨_, SqL.of hacc⟩, fun G hG => ?_⟩
  refine ⟨fun i k H4 => k = acc.length - i ∧ i ≤ acc.length ∧ Ex H3 H4 ∧ H4 G = some (.dT (ldD m m' 0 ((cpairs m.n m'.n).take i))), ⟨acc.length, rfl, Nat.zero_le _, Ex.new hG, upd_same⟩, ?_⟩
  rintro i k H4 ⟨rfl, hi, e4, hG4⟩
  have hsrc : SqL K H4 D acc := SqL.of (e4 D _ hacc)
  by_cases ci : i < acc.length
  · refine .inr ⟨⟨acc, acc[i], hsrc, List.getElem?_eq_getElem ci⟩, fun H5 => Ex H3 H5 ∧ H5 G = some (.dT (ldD m m' 0 ((cpairs m.n m'.n).take (i + 1)))), ?_, ?_⟩
    · rintro H5 ⟨h1, h2⟩
      exact ⟨acc.length - (i + 1), by omega, rfl, ci, h1, h2⟩
    rintro z H5 ⟨rfl, hz⟩
    have hz := hz acc hsrc
    obtain ⟨p, hp, ap, rfl, hap⟩ := als.of hz
    obtain ⟨s, t, rfl, hs, ht⟩ := cp_get (List.mem_of_getElem? hp)
    have e04 := e3.trans e4
    have hap4 := e4 ap _ hap
    have htake : (cpairs m.n m'.n).take (i + 1) = (cpairs m.n m'.n).take i ++ [[s, t]] := take_succ' hp
    refine ⟨rfl, _, rfl, _, rfl, a, _, _, _, rfl, rfl, SqT.of (e04 a _ ha), at_nat (j := 3) rfl rfl, _, rfl, ap, _, _, _, rfl, rfl, SqT.of hap4, at_nat (j := 0) rfl rfl, d, _, _, _, rfl, rfl, sqT_rd ((tk_ex e04).rd hd), at_nat rfl (nvs_get (at_get hs)), _, rfl, a', _, _, _, rfl, rfl, SqT.of (e04 a' _ ha'), at_nat (j := 3) rfl rfl, _, rfl, ap, _, _, _, rfl, rfl, SqT.of hap4, at_nat (j := 1) rfl rfl, d', _, _, _, rfl, rfl, sqT_rd ((tk_ex e04).rd hd'), at_nat rfl (nvs_get (at_get ht)), rfl, ?_⟩
    refine ⟨_, wk [s, t], ap, rfl, by rw [wk_kV]; exact hap4, hG4, ?_, Ex.mut e4 hG, ?_⟩
    · unfold ldD kd
      rw [List.length_map, List.length_map, List.length_take]
      exact szl (by omega)
    · rw [upd_same, htake]
      unfold ldD
      rw [List.map_append]
      have hb : (V.bl (!decide (nv (m.at_ s) = nv (m'.at_ t)))) = V.bl (ldP m m' 0 [s, t]) := by
        congr 2
        show decide (nv (m.at_ s) = nv (m'.at_ t)) = decide (m.at_ s = m'.at_ t)
        by_cases q : m.at_ s = m'.at_ t
        · rw [d_t q, d_t (congrArg nv q)]
        · rw [d_f q, d_f fun z => q (nv_inj z)]
      rw [hb, kd_put (f := V.bl) (x := ldP m m' 0 [s, t]) fun q hq e => ?_]
      · rfl
      · obtain ⟨y, hy, rfl⟩ := List.mem_map.mp hq
        have hyst : y = [s, t] := e
        subst hyst
        obtain ⟨k, hk⟩ := List.getElem?_of_mem hy
        rw [List.getElem?_take] at hk
        split at hk
        · rename_i hki
          have hnd : (cpairs m.n m'.n).Nodup := cp_nodup _ _
          have := nodup_at hnd hk hp
          omega
        · cases hk
  have ei : i = acc.length := by omega
  subst ei
  refine .inl ⟨⟨acc, hsrc, Nat.le_refl _⟩, ?_⟩
  rw [hcl, ← cp_len, List.take_length] at hG4
  refine ⟨sz1, fun al hal => ?_⟩
  have e34 := e3.trans e4
  have e5 : Ex H4 (upd H4 al (.lst [.ref G])) := Ex.new hal
  refine ⟨_, rfl, fput T.fX (i := 2) ((e34.trans e5) x _ ob2) rfl ?_⟩
  have hxa : x ≠ al := ne_of_none (e34 x _ ob2) hal
  have hGx : G ≠ x := (ne_of_none (e3 x _ ob2) hG).symm
  have hGa : G ≠ al := ne_of_none hG4 hal
  have t6 := (tk_ex (e34.trans e5)).trans (tk_ins (o := .ins c.Choices dx (putF "_leading" (.ref al) (fl_Choices.zip [.ref a, .ref a']))) ((e34.trans e5) x _ ob2))
  refine kq _ al ?_ ⟨⟨dx, .ref a, .ref a', cx_put (n := 2) rfl rfl, hM2.keep t6, hM2'.keep t6⟩, [.ref G], by rw [upd_ne hxa.symm, upd_same], rfl, fun j d hd => ?_⟩ (but_tr (but_ex b2 (e34.trans e5)) but_upd)
  · cases z : H al with
    | none => rfl
    | some o =>
      have h1 := b2 al o hxa.symm z
      rw [e34 al o h1] at hal
      cases hal
  · cases j with
    | zero =>
      simp at hd
      subst hd
      exact ⟨G, rfl, by rw [upd_ne hGx, upd_ne hGa]; exact hG4⟩
    | succ j => simp at hd

theorem walk_zipV {K : PySem.W.Frag} {a b : Addr} {xs ys : List V} {n : Nat} (hn : n = min xs.length ys.length) : Walk (RZ.ItzT K a b) n (fun H => SqT K H a xs ∧ SqT K H b ys) (YPair (fun i => xs[i]?) (fun i => ys[i]?)) := by
  subst hn
  refine ⟨fun i _ hi q => ?_, fun _ q => ⟨xs, ys, q.1, q.2, by omega⟩, fun i H v H' _ q y => ?_⟩
  · have h1 : i < xs.length := by omega
    have h2 : i < ys.length := by omega
    exact ⟨xs, ys, xs[i], ys[i], q.1, q.2, by simp [h1], by simp [h2]⟩
  · obtain ⟨T, x, z, h1, h2, h3, h4, h5⟩ := y
    exact ⟨T, x, z, h1, h2, h3, h4 xs q.1, h5 ys q.2⟩
/-- a comprehension whose steps touch nothing, any target -/
theorem lc_g {J : It} {n : Nat} {Y : Nat → Hp → V → Hp → Prop} {σ : L2.St} {g : TG} {te : TE} {vs : List Nat} {H1 : Hp} {D : Addr} {Qd : Hp → Prop} (hD : H1 D = none) (w : Walk J n (fun H => Ex H1 H) Y) (P : Nat → V → Prop)
    (hs : ∀ i x H H', i < n → Ex H1 H → (∃ acc, H D = some (.lst acc)) → Y i H x H' → ∀ Q : VK, (∀ y H4, Ex H H4 → y ≠ .ref D → P i y → Q y H4) → g x (wipe σ vs) H' fun σ2 H2 => wipe σ2 vs = wipe σ vs ∧ te σ2 H2 Q) (hn : n < 1000000)
    (hd : ∀ (H : Hp) (acc : List V), Ex H1 H → H D = some (.lst acc) → acc.length = n → (∀ (i : Nat) (v : V), acc[i]? = some v → P i v) → Qd H) :
    ∃ W : Nat → Nat → Hp → Prop, (∃ m, W 0 m (upd H1 D (.lst []))) ∧ ∀ i m H, W i m H →
      (J.stop i H ∧ Qd H) ∨ (J.go i H ∧ ∃ Nx : Hp → Prop, (∀ H', Nx H' → ∃ m', m' < m ∧ W (i + 1) m' H') ∧ ∀ x H', J.yld i H x H' → g x (wipe σ vs) H' fun σ2 H2 => wipe σ2 vs = wipe σ vs ∧ tYes σ2 H2 fun b H3 =>
        if b = true then te σ2 H3 fun y H4 => ∃ acc, H4 D = some (.lst acc) ∧ acc.length < sizeLine ∧ Nx (upd H4 D (.lst (acc ++ [y]))) else Nx H3) := by
  refine lc_it w (fun i H => Ex H1 H ∧ ∃ acc, H D = some (.lst acc) ∧ acc.length = i ∧ ∀ (k : Nat) (v : V), acc[k]? = some v → P k v) ⟨Ex.new hD, [], upd_same, rfl, fun k v h => by simp at h⟩ (fun i H _ h => h.1) ?_ ?_
  · rintro i x H H' hi ⟨e, acc, ha, hl, hp⟩ y
    refine hs i x H H' hi e ⟨acc, ha⟩ y (fun y H4 => ∃ acc, H4 D = some (.lst acc) ∧ acc.length < sizeLine ∧ (Ex H1 (upd H4 D (.lst (acc ++ [y]))) ∧ ∃ acc', upd H4 D (.lst (acc ++ [y])) D = some (.lst acc') ∧ acc'.length = i + 1 ∧ ∀ (k : Nat) (v : V), acc'[k]? = some v → P k v)) (fun z H4 e4 ny py => ⟨acc, e4 D _ ha, by have : sizeLine = 2 ^ 24 := rfl; omega, ?_⟩)
    refine ⟨Ex.mut (e.trans e4) hD, acc ++ [z], upd_same, by simp [hl], fun k v hk => ?_⟩
    by_cases c : k < acc.length
    · rw [List.getElem?_append_left c] at hk
      exact hp k v hk
    · rw [List.getElem?_append_right (by omega)] at hk
      have hk0 : k - acc.length = 0 := by
        have := (List.getElem?_eq_some_iff.mp hk).1
        simp at this
        omega
      rw [hk0] at hk
      simp at hk
      subst hk
      have : k = i := by omega
      subst this
      exact py
  · rintro H ⟨e, acc, ha, hl, hp⟩
    exact hd H acc e ha hl hp
theorem ldD_len (m m' : Mai.Mach) (j : Nat) (l : List (List Nat)) : (ldD m m' j l).length = l.length := by unfold ldD kd; rw [List.length_map, List.length_map]
theorem ldD_get {m m' : Mai.Mach} {j i : Nat} {l : List (List Nat)} {k : List Key} {v : V} (h : (ldD m m' j l)[i]? = some (k, v)) : ∃ p, l[i]? = some p ∧ k = wk p := by
  unfold ldD kd at h
  rw [List.map_map, List.getElem?_map, Option.map_eq_some_iff] at h
  obtain ⟨x, h1, h2⟩ := h
  exact ⟨x, h1, by rw [Prod.mk.injEq] at h2; exact h2.1.symm⟩
theorem ldD_snoc {m m' : Mai.Mach} {j i : Nat} {n n' : Nat} {p : List Nat} (h : (cpairs n n')[i]? = some p) : putK (ldD m m' j ((cpairs n n').take i)) (wk p) (.bl (ldP m m' j p)) = ldD m m' j ((cpairs n n').take (i + 1)) := by
  rw [take_succ' h]
  unfold ldD
  rw [List.map_append, kd_put (f := V.bl) (x := ldP m m' j p) fun q hq e => ?_]
  · rfl
  · obtain ⟨y, hy, rfl⟩ := List.mem_map.mp hq
    have hyst : y = p := e
    subst hyst
    obtain ⟨k, hk⟩ := List.getElem?_of_mem hy
    rw [List.getElem?_take] at hk
    split at hk
    · have := nodup_at (cp_nodup n n') hk h
      omega
    · cases hk
theorem ok_Choices__extend {f : Addr} {fd : FuncData} (T : Tx K mg c)  (F : FnP K "_extend" "Choices._extend" s_Choices__extend f fd) : FnOk P w K mg base CX0 1 f fd p_Choices__extend (sp_Choices__extend P w K c) := by
  refine F.ok sc_Choices__extend (fun vs H Q E h => by obtain ⟨_, _, _, _, _, rfl, _⟩ := h; rfl) (fun cdv A outer s H vs Q E hr h => ?_)
  refine ⟨_, PSs.nox (pss_cons (ps_set (i := 1) sc_Choices__extend.nd rfl (Or.inr rfl) (pe_ix ix_list (pe_fld (pv 0) rfl) (pe_un un_neg pe_int) (fun _ _ => rfl)))
     (pss_cons (ps_set (i := 2) sc_Choices__extend.nd rfl (Or.inl rfl) pe_dnewT)
     (pss_cons (ps_lock (ps_for PassesOwn.never rfl (pi_keys (pv 1)) (pg_tup (by rfl) (pgs_cons (pg_name (i := 3) sc_Choices__extend.nd rfl (Or.inl rfl)) (pgs_cons (pg_name (i := 4) sc_Choices__extend.nd rfl (Or.inl rfl)) pgs_nil)))
     (pss_cons (ps_set (i := 5) sc_Choices__extend.nd rfl (Or.inl rfl) (pe_callTy call_zipV (by rfl) T.b_zip (by decide +kernel) (pa_cons (pe_ix ix_tup (pe_ix ix_tup (pe_fld (pv 0) rfl) pe_int (fun _ _ => rfl)) (pv 3) (fun _ _ => rfl)) (pa_cons (pe_ix ix_tup (pe_ix ix_tup (pe_fld (pv 0) rfl) pe_int (fun _ _ => rfl)) (pv 4) (fun _ _ => rfl)) pa_nil))))
     (pss_one (ps_dput (hu_of hr) (pv 2) (pe_tup (pa_cons (pv 3) (pa_cons (pv 4) pa_nil))) (pe_callB (cr_any rfl) (by rfl) T.b_any (by decide +kernel) (pa_cons (pe_lc (own := [("p", 6), ("q", 7)]) (g := gTup K 2 (gCons (gName 6) (gCons (gName 7) gNil))) (te := (tDGet (tVar 1) (tTup (tCons (tVar 6) (tCons (tVar 7) tNil))))) (by rfl) sc_Choices__extend.nd (pi_zipV (k := 5) rfl (by first | exact Or.inl rfl | exact Or.inr (Or.inl rfl))) (blkOk_by (N := N_Choices__extend) (sc := (defScope s_Choices__extend)) (by decide +kernel)) (fun _ _ _ _ _ => (pg_tup (by rfl) (pgs_cons (pg_name (i := 6) sc_Choices__extend.nd rfl (Or.inl rfl)) (pgs_cons (pg_name (i := 7) sc_Choices__extend.nd rfl (Or.inl rfl)) pgs_nil)))) (fun _ _ _ _ _ => pts_nil) (fun _ _ _ _ _ => (pe_dget (hu_of hr) (pv 1) (pe_tup (pa_cons (pv 6) (pa_cons (pv 7) pa_nil))) (fun _ _ => rfl)))) pa_nil)) rfl)))))
     (pss_one (ps_expr (pe_bm PySem.F.plainAttrs_list PySem.F.slot_list_append PySem.F.type_list_append mt_append (pe_fld (pv 0) rfl) (pa_cons (pv 2) pa_nil))))))), ?_⟩
  obtain ⟨x, al, m, m', L, rfl, ch, wf, wf', hk, hL, kq⟩ := h
  obtain ⟨⟨dx, v1, v2, ob, hM, hM'⟩, ds, hds, hdl, hdd⟩ := id ch
  obtain ⟨a, b, d, rs, rfl, ha, hb, hrs, hd⟩ := id hM
  obtain ⟨a', b', d', rs', rfl, ha', hb', hrs', hd'⟩ := id hM'
  have hlt : L < ds.length := by omega
  obtain ⟨ld, hld1, hld⟩ := hdd L ds[L] (List.getElem?_eq_getElem hlt)
  have hlast : atI ds (-1) = some (.ref ld) := by
    have e : ds = ds.take L ++ [.ref ld] := by
      conv => lhs; rw [← List.take_append_drop L ds]
      congr 1
      rw [List.drop_eq_getElem_cons hlt, List.drop_eq_nil_of_le (by omega), hld1]
    rw [e]
    exact atI_last _ _
  have hk4 := wf.k4
  refine ⟨_, rfl, fget T.fX (i := 2) ob rfl rfl ⟨_, rfl, al, ds, _, _, rfl, rfl, SqL.of hds, hlast, fun f hf => ?_⟩⟩
  have e1 : Ex H (upd H f (.dT [])) := Ex.new hf
  have nlf : ld ≠ f := ne_of_none hld hf
  refine ⟨ld, _, e1 ld _ hld, True.intro, fun od => ?_⟩
  have hfz : upd (upd H f (.dT [])) ld (.frz od (.dT (ldD m m' L (cpairs m.n m'.n)))) ld = some (.frz od (.dT (ldD m m' L (cpairs m.n m'.n)))) := upd_same
  have hff : upd (upd H f (.dT [])) ld (.frz od (.dT (ldD m m' L (cpairs m.n m'.n)))) f = some (.dT []) := by rw [upd_ne nlf.symm, upd_same]
  -- what is kept: all of H but ld, and ld's lock
  have hkeep : ∀ z o, z ≠ ld → H z = some o → upd (upd H f (.dT [])) ld (.frz od (.dT (ldD m m' L (cpairs m.n m'.n)))) z = some o := fun z o nz hz => by rw [upd_ne nz]; exact e1 z o hz
  generalize upd (upd H f (.dT [])) ld (.frz od (.dT (ldD m m' L (cpairs m.n m'.n)))) = HB at *
  refine ⟨_, rfl, ld, od, rfl, .inr ⟨_, hfz, for_it walk_keysT (fun i σ H5 => ∃ (s3 s4 s5 s6 s7 : Option V), σ = [some (V.ref x), some (V.ref ld), some (V.ref f), s3, s4, s5, s6, s7] ∧ (∀ z o, z ≠ f → HB z = some o → H5 z = some o) ∧ H5 f = some (.dT (ldD m m' (L + 1) ((cpairs m.n m'.n).take i)))) ⟨_, _, _, _, _, rfl, fun z o _ h => h, hff⟩ (fun i σ H5 _ ⟨_, _, _, _, _, _, e, _⟩ => e ld _ nlf hfz) ?_ ?_⟩⟩
  · rintro i z σ H0 H5 hi ⟨s3, s4, s5, s6, s7, rfl, e5, hf5⟩ ⟨rfl, kk, v, q, hkv, rfl, hq⟩
    obtain ⟨p, hp, rfl⟩ := ldD_get hkv
    obtain ⟨s, t, rfl, hs, ht⟩ := cp_get (List.mem_of_getElem? hp)
    rw [wk_kV] at hq
    have up : ∀ z o, z ≠ ld → z ≠ f → H z = some o → H5 z = some o := fun z o n1 n2 hz => e5 z o n2 (hkeep z o n1 hz)
    have tup : ∀ z xs, H z = some (.tup xs) → H5 z = some (.tup xs) := fun z xs hz => up z _ (ne_of hz hld fun w => by cases w) (ne_of_none hz hf) hz
    have ob5 : H5 x = _ := up x _ (ne_of ob hld fun w => by cases w) (ne_of_none ob hf) ob
    obtain ⟨x2, hx2, a2, rfl, ha2⟩ := hrs.get (row_get wf hs)
    obtain ⟨x2', hx2', a2', rfl, ha2'⟩ := hrs'.get (row_get wf' ht)
    have hld5 := e5 ld _ nlf hfz
    refine ⟨q, _, rfl, SqT.of hq, rfl, _, _, rfl, _, _, rfl, rfl, ?_⟩
    refine ⟨_, rfl, fget T.fX (i := 0) ob5 rfl rfl ⟨a, _, _, _, rfl, rfl, SqT.of (tup a _ ha), at_nat (j := 2) rfl rfl, _, rfl, b, _, _, _, rfl, rfl, SqT.of (tup b _ hb), at_nat rfl hx2, _, rfl, fget T.fX (i := 1) ob5 rfl rfl ⟨a', _, _, _, rfl, rfl, SqT.of (tup a' _ ha'), at_nat (j := 2) rfl rfl, _, rfl, b', _, _, _, rfl, rfl, SqT.of (tup b' _ hb'), at_nat rfl hx2', a2, a2', _, _, rfl, SqT.of (tup a2 _ ha2), SqT.of (tup a2' _ ha2'), fun zz H6 e6 zat => ?_⟩⟩⟩
    refine ⟨zz, a2, a2', H5, rfl, zat, fun H7 _ k7 => ?_⟩
    have e57 : Ex H5 H7 := fun z o hz => k7 z o hz (e6 z o hz)
    have hl1 : (nvs (m.row s)).length = m.k := by rw [nvs_len]; exact (wf.row hs).1
    have hl2 : (nvs (m'.row t)).length = m'.k := by rw [nvs_len]; exact (wf'.row ht).1
    refine fun D hD => lc_g hD ((walk_zipV (xs := nvs (m.row s)) (ys := nvs (m'.row t)) (n := m.k) (by omega)).mono (fun H8 e8 => ⟨SqT.of (e8 a2 _ (e57 a2 _ (tup a2 _ ha2))), SqT.of (e8 a2' _ (e57 a2' _ (tup a2' _ ha2')))⟩) fun _ _ _ _ _ _ y => y) (fun j v => v = .bl (Mai.Mach.lead m m' L (m.step s j) (m'.step t j))) ?_ (by omega) ?_
    · rintro j z H8 H9 hj e8 ⟨accD, hDD⟩ ⟨Tt, y1, y2, rfl, hT, rfl, hy1, hy2⟩ Q' kk2
      obtain ⟨g1, g2⟩ := step_get wf hs hj
      obtain ⟨g1', g2'⟩ := step_get wf' ht (by omega : j < m'.k)
      have h1 := nvs_get g1
      have h2 := nvs_get g1'
      have hy1 : (nvs (m.row s))[j]? = some y1 := hy1
      have hy2 : (nvs (m'.row t))[j]? = some y2 := hy2
      rw [h1] at hy1
      rw [h2] at hy2
      cases hy1
      cases hy2
      have e9 : Ex H8 (upd H8 Tt (.tup [nv (m.step s j), nv (m'.step t j)])) := Ex.new hT
      refine ⟨Tt, _, rfl, SqT.of upd_same, rfl, _, _, rfl, _, _, rfl, rfl, rfl, ?_⟩
      refine ⟨_, rfl, _, rfl, _, rfl, sz2, fun tp htp => ?_⟩
      have e10 := e9.trans (Ex.new (o := HO.tup [nv (m.step s j), nv (m'.step t j)]) htp)
      have hldz := e10 ld _ (e8 ld _ (e57 ld _ hld5))
      refine ⟨ld, _, rfl, .inr ⟨_, wk [m.step s j, m'.step t j], tp, .inr ⟨od, hldz⟩, rfl, by rw [wk_kV]; exact upd_same, (ldD_val m m' L _ (cp_mem.mpr ⟨g2, g2'⟩)).symm⟩, kk2 _ _ e10 (by intro z; cases z) rfl⟩
    · intro H8 acc e8 hacc hal2 hap
      have eacc : acc = ((List.range m.k).map fun j => Mai.Mach.lead m m' L (m.step s j) (m'.step t j)).map V.bl := by
        rw [List.map_map]
        exact vals_range hal2 hap
      have hany : ((List.range m.k).map fun j => Mai.Mach.lead m m' L (m.step s j) (m'.step t j)).any id = ldP m m' (L + 1) [s, t] := by
        show _ = ((m.row s).zip (m'.row t)).any fun p => Mai.Mach.lead m m' L p.1 p.2
        rw [Mai.Mach.zip_at wf wf' hk hs ht, List.any_map, List.any_map]
        rfl
      rw [eacc] at hacc
      have e58 := e57.trans e8
      refine ⟨D, _, rfl, SqL.of hacc, _, rfl, _, rfl, _, rfl, sz2, fun tp htp => ?_⟩
      have e9 : Ex H8 (upd H8 tp (.tup [nv s, nv t])) := Ex.new htp
      have htp9 : upd H8 tp (.tup [nv s, nv t]) tp = some (.tup (nvs [s, t])) := upd_same
      have hf9 := (e58.trans e9) f _ hf5
      refine ⟨f, _, rfl, .inr ⟨_, wk [s, t], tp, hf9, rfl, by rw [wk_kV]; exact htp9, ?_, rfl⟩, ?_⟩
      · rw [ldD_len, List.length_take, cp_len]
        have : m.n * m'.n ≤ 30 * 30 := Nat.mul_le_mul wf.n30 wf'.n30
        exact szl (by omega)
      · refine ⟨_, _, _, _, _, rfl, fun z o nz hz => ?_, ?_⟩
        · rw [upd_ne nz]
          exact (e58.trans e9) z o (e5 z o nz hz)
        · rw [upd_same, hany, ldD_snoc hp]
  · rintro σ H5 ⟨s3, s4, s5, s6, s7, rfl, e5, hf5⟩
    have hld5 := e5 ld _ nlf hfz
    rw [ldD_len, List.take_length] at hf5
    have up : ∀ z o, z ≠ ld → H z = some o → upd H5 ld (.dT (ldD m m' L (cpairs m.n m'.n))) z = some o := fun z o n1 hz => by rw [upd_ne n1]; exact e5 z o (ne_of_none hz hf) (hkeep z o n1 hz)
    have e6 : Ex H (upd H5 ld (.dT (ldD m m' L (cpairs m.n m'.n)))) := fun z o hz => by
      by_cases q : z = ld
      · rw [q] at hz ⊢
        rw [upd_same, ← hz, hld]
      · exact up z o q hz
    have hf6 : upd H5 ld (.dT (ldD m m' L (cpairs m.n m'.n))) f = some (.dT (ldD m m' (L + 1) (cpairs m.n m'.n))) := by rw [upd_ne nlf.symm]; exact hf5
    refine ⟨hld5, ?_⟩
    generalize upd H5 ld (.dT (ldD m m' L (cpairs m.n m'.n))) = H6 at *
    have hds6 := e6 al _ hds
    have ob6 := e6 x _ ob
    have t7 := (tk_ex e6).trans (tk_upd (u := .lst (ds ++ [.ref f])) hds6 fun z => z)
    refine ⟨_, rfl, fget T.fX (i := 2) ob6 rfl rfl ⟨.inl ⟨rfl, _, SqL.of hds6⟩, _, rfl, al, ds, _, rfl, rfl, hds6, szl (by omega), ?_⟩⟩
    have nda : ∀ z kvs, H6 z = some (.dT kvs) → z ≠ al := fun z kvs hz => ne_of hz hds6 fun w => by cases w
    refine kq _ ⟨⟨dx, .ref a, .ref a', by rw [upd_ne (ne_of ob6 hds6 fun z => by cases z)]; exact ob6, hM.keep t7, hM'.keep t7⟩, _, upd_same, by rw [List.length_append, hdl]; rfl, fun j dd hdj => ?_⟩ t7 (ex_but' e6 but_upd)
    by_cases cj : j < ds.length
    · rw [List.getElem?_append_left cj] at hdj
      obtain ⟨z, hz1, hz2⟩ := hdd j dd hdj
      have hz6 := e6 z _ hz2
      exact ⟨z, hz1, by rw [upd_ne (nda z _ hz6)]; exact hz6⟩
    · rw [List.getElem?_append_right (by omega)] at hdj
      have hj0 : j - ds.length = 0 := by
        have := (List.getElem?_eq_some_iff.mp hdj).1
        simp at this
        omega
      rw [hj0] at hdj
      simp at hdj
      subst hdj
      have : j = L + 1 := by omega
      subst this
      exact ⟨f, rfl, by rw [upd_ne (nda f _ hf6)]; exact hf6⟩

theorem ok_Choices_words {f : Addr} {fd : FuncData} (T : Tx K mg c) (D_Choices__extend : Mtd P w K mg base CX0 1 c.Choices "_extend" p_Choices__extend (sp_Choices__extend P w K c)) (D_Choices__find : Mtd P w K mg base CX0 60 c.Choices "_find" p_Choices__find (sp_Choices__find P w K c)) (F : FnP K "words" "Choices.words" s_Choices_words f fd) : FnOk P w K mg base CX0 61 f fd p_Choices_words (sp_Choices_words P w K c) := by
  refine F.ok sc_Choices_words (fun vs H Q E h => by obtain ⟨_, _, _, _, _, _, _, rfl, _⟩ := h; rfl) (fun cdv A outer s H vs Q E hr h => ?_)
  refine ⟨_, PSs.nox (pss_cons (ps_while PassesOwn.never (pt_cmpR op_le (pe_callB call_len_seq (by rfl) T.b_len PySem.boot_len (pa_cons (pe_fld (pv 0) rfl) pa_nil)) (pv 1) (by rfl))
     (pss_one (ps_expr (pe_m0 (pv 0) T.k_Choices D_Choices__extend (hr.mono (by decide))))))
     (pss_cons (ps_set (i := 3) sc_Choices_words.nd rfl (Or.inl rfl) (pe_lst pa_nil))
     (pss_cons (ps_expr (pe_m (pv 0) T.k_Choices D_Choices__find (hr.mono (by decide)) (pa_cons (pe_lst pa_nil) (pa_cons (pe_tup (pa_cons pe_int (pa_cons pe_int pa_nil))) (pa_cons (pv 1) (pa_cons (pv 3) (pa_cons (pv 2) pa_nil)))))))
     (pss_one (ps_ret (pv 3)))))), ?_⟩
  obtain ⟨x, al, m, m', L, len, most, rfl, ch, wf, wf', hk, hL, hlen, hmost, kq⟩ := h
  have hstart : ∀ a, H a = none → H a = none := fun a h => h
  refine ⟨fun mm σ H2 => ∃ L', mm = 61 - L' ∧ σ = [some (V.ref x), some (nv len), some (nv most), none] ∧ ChoAt c H2 x al m m' (L' + 1) ∧ L' ≤ 60 ∧ Tk H H2 ∧ But (fun a => a = al) H H2 ∧ (∀ a, H2 a = none → H a = none), ⟨61 - L, L, rfl, rfl, ch, hL, Tk.refl H, fun _ _ _ h => h, hstart⟩, ?_⟩
  rintro mm σ H2 ⟨L', rfl, rfl, ch2, hL2, t2, b2, f2⟩
  obtain ⟨⟨dx, v1, v2, ob, hM, hM'⟩, ds, hds, hdl, hdd⟩ := id ch2
  refine ⟨_, rfl, fget T.fX (i := 2) ob rfl rfl ⟨al, ds, rfl, .inl (SqL.of hds), _, rfl, _, _, rfl, rfl, _, rfl, ?_⟩⟩
  rw [hdl]
  by_cases c1 : L' + 1 ≤ len
  · refine iteP (decide_eq_true (by omega)) ⟨fun σ' H' => σ' = [some (V.ref x), some (nv len), some (nv most), none] ∧ ChoAt c H' x al m m' (L' + 1 + 1) ∧ L' + 1 ≤ 60 ∧ Tk H H' ∧ But (fun a => a = al) H H' ∧ (∀ a, H' a = none → H a = none), fun σ' H' ⟨h1, h2, h3, h4, h5, h6⟩ => ⟨61 - (L' + 1), by omega, L' + 1, rfl, h1, h2, h3, h4, h5, h6⟩, ?_⟩
    refine ⟨_, rfl, x, dx, _, rfl, ob, zip_none (by decide +kernel), x, al, m, m', L', rfl, ch2, wf, wf', hk, by omega, fun H3 ch3 t3 b3 => ⟨rfl, ch3, by omega, t2.trans t3, but_tr b2 b3, fun a ha => f2 a ?_⟩⟩
    cases z : H2 a with
    | none => rfl
    | some o =>
      by_cases q : a = al
      · obtain ⟨_, ds3, hds3, _⟩ := ch3
        rw [q, hds3] at ha
        cases ha
      · rw [b3 a o q z] at ha
        cases ha
  · refine iteN (decide_eq_false (by omega)) ⟨by decide, fun fl hfl => ?_⟩
    have e3 : Ex H2 (upd H2 fl (.lst [])) := Ex.new hfl
    have hfl3 : upd H2 fl (.lst []) fl = some (.lst []) := upd_same
    have nalf : al ≠ fl := ne_of_none hds hfl
    have hflH := f2 fl hfl
    generalize upd H2 fl (.lst []) = H3 at *
    have ch3 := ch2.ex e3
    have ob3 := e3 x _ ob
    refine ⟨_, rfl, x, dx, _, rfl, ob3, zip_none (by decide +kernel), by decide, fun wl hwl => ?_⟩
    have e4 : Ex H3 (upd H3 wl (.lst [])) := Ex.new hwl
    have hwl4 : upd H3 wl (.lst []) wl = some (.lst []) := upd_same
    have nwf : wl ≠ fl := (ne_of_none hfl3 hwl).symm
    have hwlH := f2 wl (fresh_back e3 hwl)
    have e24 := e3.trans e4
    generalize upd H3 wl (.lst []) = H4 at *
    refine ⟨sz2, fun tp htp => ?_⟩
    have e5 : Ex H4 (upd H4 tp (.tup [nv 0, nv 0])) := Ex.new htp
    have htp5 : upd H4 tp (.tup [nv 0, nv 0]) tp = some (.tup (nvs [0, 0])) := upd_same
    have e25 := e24.trans e5
    refine ⟨_, rfl, _, rfl, _, rfl, len, hlen, x, al, fl, .ref wl, .ref tp, m, m', L' + 1, most, H, [], 0, 0, [], [], rfl, ch2.ex e25, wf, wf', hk, by omega, nalf, fun a ha => f2 a (fresh_back e25 ha), ⟨wl, rfl, e5 wl _ hwl4, hwlH, nwf⟩, by simp, by omega, ⟨tp, rfl, htp5⟩, wf.n0, wf'.n0, (e4.trans e5) fl _ hfl3, Als.nil, hmost, Nat.zero_le _, fun H6 us t6 b6 hfl6 als6 => ?_⟩
    refine ⟨_, rfl, kq H6 fl us L' ((ch2.ex e25).keep t6 b6 (fun a o z ha => ?_) nalf) hL2 (t2.trans ((tk_ex e25).trans t6)) (fun a o na ha => b6 a o (ne_of_none ha hflH) (e25 a o (b2 a o na ha))) hflH hfl6 (als6.mono fun v w _ ⟨a, h1, h2, h3, h4⟩ => ⟨a, h1, h2, h3⟩)⟩
    rw [z, (e4.trans e5) fl _ hfl3] at ha
    cases ha
    exact ⟨_, rfl⟩

theorem hb_put {c : Cs} {H : Hp} {p dx : Addr} {n : Nat} {f : Str} {v : V} {vs : List V} (hf : fl_Honest[n]? = some f) (hn : n = vs.length) : upd H p (.ins c.Honest dx (putF f v (fl_Honest.zip vs))) p = some (.ins c.Honest dx (fl_Honest.zip (vs ++ [v]))) := by rw [upd_same, zip_end nd_Honest hf hn]
theorem ok_Honest_init {f : Addr} {fd : FuncData} (T : Tx K mg c) (D_check_machine : Dfn P w K mg base CX0 2 "check_machine" p_check_machine (sp_check_machine P w K c)) (F : FnP K "__init__" "Honest.__init__" s_Honest_init f fd) : FnOk P w K mg base CX0 3 f fd p_Honest_init (sp_Honest_init P w K c) := by
  refine F.ok sc_Honest_init (fun vs H Q E h => by obtain ⟨_, _, _, _, _, _, rfl, _⟩ := h; rfl) (fun cdv A outer s H vs Q E hr h => ?_)
  refine ⟨_, PSs.nox (pss_cons (ps_expr (pe_c D_check_machine (hr.mono (by decide)) (pa_cons (pv 1) pa_nil)))
     (pss_cons (ps_fld (pv 0) (pv 1) rfl)
     (pss_cons (ps_fld (pv 0) (pe_callTy call_list_of (by rfl) T.b_list (by decide +kernel) (pa_cons (pv 2) pa_nil)) rfl)
     (pss_one (ps_fld (pv 0) pe_int rfl))))), ?_⟩
  obtain ⟨x, dx, pl, mv, m, ps, rfl, hx, hM, wf, hpl, kq⟩ := h
  replace hx : H x = some (.ins c.Honest dx (fl_Honest.zip [])) := hx
  refine ⟨_, rfl, mv, m, rfl, hM, wf, fun H0 e0 => ?_⟩
  have hx0 := e0 x _ hx
  have hpl0 := e0 pl _ hpl
  refine ⟨_, rfl, _, rfl, fput T.fB (i := 0) hx0 rfl ?_⟩
  have ob1 := hb_put (c := c) (H := H0) (p := x) (dx := dx) (n := 0) (f := "_machine") (v := mv) (vs := []) rfl rfl
  have t1 := (tk_ex e0).trans (tk_ins (o := .ins c.Honest dx (putF "_machine" mv (fl_Honest.zip []))) hx0)
  have b1 : But (fun a => a = x) H (upd H0 x (.ins c.Honest dx (putF "_machine" mv (fl_Honest.zip [])))) := ex_but' e0 but_upd
  generalize upd H0 x (.ins c.Honest dx (putF "_machine" mv (fl_Honest.zip []))) = H1 at *
  have npx : pl ≠ x := ne_of hpl hx fun z => by cases z
  have hpl1 := b1 pl _ npx hpl
  refine ⟨_, rfl, pl, _, rfl, .inl (SqL.of hpl1), fun pk hpk => ⟨_, rfl, fput T.fB (i := 1) ((Ex.new hpk) x _ ob1) rfl ?_⟩⟩
  have hpk0 : H pk = none := by
    cases z : H pk with
    | none => rfl
    | some o =>
      by_cases q : pk = x
      · rw [q, ob1] at hpk
        cases hpk
      · rw [b1 pk o q z] at hpk
        cases hpk
  have hpk2 : upd H1 pk (.lst (nvs ps)) pk = some (.lst (nvs ps)) := upd_same
  have ob2 := (Ex.new (o := HO.lst (nvs ps)) hpk) x _ ob1
  have b2 := but_ex b1 (Ex.new (o := HO.lst (nvs ps)) hpk)
  have t2 := t1.trans (tk_new (u := HO.lst (nvs ps)) hpk)
  generalize upd H1 pk (.lst (nvs ps)) = H2 at *
  have nkx : pk ≠ x := ne_of hpk2 ob2 fun z => by cases z
  have ob3 := hb_put (c := c) (H := H2) (p := x) (dx := dx) (n := 1) (f := "_picks") (v := .ref pk) (vs := [] ++ [mv]) rfl rfl
  have t3 := t2.trans (tk_ins (o := .ins c.Honest dx (putF "_picks" (.ref pk) (fl_Honest.zip ([] ++ [mv])))) ob2)
  have b3 : But (fun a => a = x) H (upd H2 x (.ins c.Honest dx (putF "_picks" (.ref pk) (fl_Honest.zip ([] ++ [mv]))))) := but_tr b2 but_upd
  refine ⟨_, rfl, fput T.fB (i := 2) ob3 rfl ?_⟩
  have t4 := t3.trans (tk_ins (o := .ins c.Honest dx (putF "_used" (.int 0) (fl_Honest.zip ([] ++ [mv] ++ [.ref pk])))) ob3)
  refine kq _ pk ⟨⟨dx, mv, 0, ?_, hM.keep t4, by rw [upd_ne nkx, upd_ne nkx]; exact hpk2⟩⟩ hpk0 (but_tr b3 but_upd)
  exact hb_put (n := 2) (v := .int 0) (vs := [] ++ [mv] ++ [.ref pk]) rfl rfl

theorem ok_Honest__next_pick {f : Addr} {fd : FuncData} (T : Tx K mg c)  (F : FnP K "_next_pick" "Honest._next_pick" s_Honest__next_pick f fd) : FnOk P w K mg base CX0 1 f fd p_Honest__next_pick (sp_Honest__next_pick P w K c) := by
  refine F.ok sc_Honest__next_pick (fun vs H Q E h => by obtain ⟨_, _, _, _, rfl, _⟩ := h; rfl) (fun cdv A outer s H vs Q E hr h => ?_)
  refine ⟨_, PSs.nox (pss_cons (ps_if (pt_cmpR op_eq (pe_callB call_len_seq (by rfl) T.b_len PySem.boot_len (pa_cons (pe_fld (pv 0) rfl) pa_nil)) pe_int (by rfl))
     (pss_one (ps_ret pe_int))
     pss_nil)
     (pss_cons (ps_set (i := 1) sc_Honest__next_pick.nd rfl (Or.inl rfl) (pe_ix ix_list (pe_fld (pv 0) rfl) (pe_op op_modN (pe_fld (pv 0) rfl) (pe_callB call_len_seq (by rfl) T.b_len PySem.boot_len (pa_cons (pe_fld (pv 0) rfl) pa_nil))) (fun _ _ => rfl)))
     (pss_cons (ps_fldaug (pv 0) pe_int in_add)
     (pss_one (ps_ret (pv 1)))))), ?_⟩
  obtain ⟨x, pk, m, ps, rfl, bx, hps, kq⟩ := h
  obtain ⟨dx, mv, u, ob, hM, hpk⟩ := bx.ob
  refine ⟨_, rfl, fget T.fB (i := 1) ob rfl rfl ⟨pk, _, rfl, .inl (SqL.of hpk), rfl, _, rfl, ?_⟩⟩
  cases ps with
  | nil => exact iteP (d_t rfl) (kq H 0 bx (Tk.refl H) fun _ _ _ h => h)
  | cons a r =>
    refine iteN (d_f fun z => by have := V.int.inj z; simp at this; omega) ?_
    have hl : (nvs (a :: r)).length = r.length + 1 := by rw [nvs_len]; rfl
    have hm : (u : Int).fmod (((nvs (a :: r)).length : Nat) : Int) = ((u % (r.length + 1) : Nat) : Int) := by
      rw [hl, Int.fmod_eq_emod_of_nonneg _ (by omega)]
      omega
    have hlt : u % (r.length + 1) < (a :: r).length := Nat.mod_lt _ (by simp)
    refine ⟨_, rfl, fget T.fB (i := 1) ob rfl rfl ⟨_, rfl, fget T.fB (i := 2) ob rfl rfl ⟨_, rfl, fget T.fB (i := 1) ob rfl rfl ⟨pk, _, rfl, .inl (SqL.of hpk), _, _, rfl, rfl, by rw [hl]; omega, pk, _, _, _, rfl, rfl, SqL.of hpk, at_nat hm (nvs_get (getD_some hlt)), ?_⟩⟩⟩⟩
    refine ⟨_, rfl, x, c.Honest, dx, _, nv u, rfl, ob, T.fB.k, T.fB.n _ (by decide +kernel), zip_look nd_Honest (i := 2) rfl rfl, _, _, rfl, rfl, dx, _, ob, by rw [List.length_zip]; exact Nat.lt_of_le_of_lt (Nat.min_le_left _ _) (by decide), ?_⟩
    refine ⟨_, rfl, kq _ _ ⟨⟨dx, mv, u + 1, ?_, hM.keep (tk_ins ob), ?_⟩⟩ (tk_ins ob) but_upd⟩
    · rw [upd_same, zip_put nd_Honest (i := 2) rfl (by simp)]
      rfl
    · rw [upd_ne (ne_of hpk ob fun z => by cases z)]
      exact hpk
end
end MW
/-! ## P10 -/
namespace MW
open PySem PySem.Spec PyProof.Rows L2 Evl
/-- no exception leaves -/
theorem tk0 {X : Cx} : Takes X (fun _ _ _ _ => False) := fun _ _ x => by
  obtain ⟨_, _, _, _, _, _, _, _, _, _, _, _, _, _, _, _, z⟩ := x
  exact z.elim
/-- what is known of the exception's class -/
structure AlkT (K : PySem.W.Frag) (mg : Str → Option Value) (c : Cs) : Prop where
  g : mg "Alike" = some (.ref c.Alike)
  x : PySem.W.excIn K c.Alike He.veBase "ValueError.__new__" = true
  k : PySem.W.keepIn K (.ref c.Alike) = true
  b : PySem.W.subIn K (.ref c.Alike) (.type "BaseException") = some true
  t : PySem.W.typeIn K (.ref c.Alike) = some (.type "type")
  e : PySem.W.exmOne K (.ref c.Alike) (.ref c.Alike) = some true
section
variable {P : Program} {w : World} {K : PySem.W.Frag} {mg : Str → Option Value} {base : Heap} {c : Cs}
theorem ok_first_difference {f : Addr} {fd : FuncData} (T : Tx K mg c) (AL : AlkT K mg c) (D_check_kind : Dfn P w K mg base CX0 1 "check_kind" p_check_kind (sp_check_kind P w K c)) (D_search : Dfn P w K mg base CX0 1 "search" p_search (sp_search P w K c)) (F : FnP K "first_difference" "first_difference" s_first_difference f fd) : FnOk P w K mg base (L2.CX P w) 2 f fd p_first_difference (sp_first_difference P w K c) := by
  refine F.ok sc_first_difference (fun vs H Q E h => by obtain ⟨_, _, _, _, rfl, _⟩ := h; rfl) (fun cdv A outer s H vs Q E hr h => ?_)
  refine ⟨_, (pss_cons (ps_expr (pe_c D_check_kind (hr.mono (by decide)) (pa_cons (pv 0) (pa_cons (pv 1) pa_nil))))
     (pss_cons (ps_set (i := 2) sc_first_difference.nd rfl (Or.inl rfl) (pe_c D_search (hr.mono (by decide)) (pa_cons (pv 0) (pa_cons (pv 1) (pa_cons pe_int (pa_cons pe_int pa_nil))))))
     (pss_cons (ps_if (pt_cmpR op_isN (pv 2) pe_non (by rfl))
     (pss_one (ps_raise rfl (takes_of rfl rfl rfl rfl) (pmk_own PySem.F.excBase_ValueError AL.x AL.g AL.k (raises_own AL.b AL.t) rfl)))
     pss_nil)
     (pss_one (ps_ret (pv 2)))))), ?_⟩
  obtain ⟨v1, v2, m, m', rfl, hM, hM', wf, wf', hk, ho, kn, ks⟩ := h
  refine ⟨_, rfl, _, rfl, v1, v2, m, m', rfl, hM, hM', hk, ho, ?_⟩
  refine ⟨_, rfl, _, rfl, v1, v2, m, m', rfl, hM, hM', wf, wf', hk, fun hn H1 e1 => ⟨_, rfl, rfl, _, rfl, iteP (d_t rfl) (kn hn H1 e1)⟩, fun wd hw H1 r e1 hr1 => ⟨_, rfl, rfl, _, rfl, iteN (d_f fun z => by cases z) ⟨_, rfl, ks wd hw H1 r e1 hr1⟩⟩⟩
theorem findP_len (m m' : Mai.Mach) (most : Nat) : ∀ (L : Nat) (word : List Nat) (s t : Nat) (found : List (List Nat)), found.length ≤ 60 → most ≤ 60 → (Mai.Mach.findP m m' most L word s t found).length ≤ 60
  | 0, word, s, t, found, h1, h2 => by
    unfold Mai.Mach.findP
    split
    · exact h1
    · rename_i q
      rw [List.length_append]
      have : found.length < most := Nat.lt_of_not_le fun z => q (.inl z)
      show _ + 1 ≤ _
      omega
  | L + 1, word, s, t, found, h1, h2 => by
    unfold Mai.Mach.findP
    split
    · exact h1
    · have key : ∀ (l : List Nat) (f : List (List Nat)), f.length ≤ 60 → (l.foldl (fun f a => Mai.Mach.findP m m' most L (word ++ [a]) (m.step s a) (m'.step t a) f) f).length ≤ 60 := by
        intro l
        induction l with
        | nil => exact fun f h => h
        | cons a l ih => exact fun f h => ih _ (findP_len m m' most L _ _ _ f h h2)
      exact key _ _ h1
theorem find_turn {n k : Nat} {sp' : Sp} {f : Addr} {fd : FuncData} (T : Tx K mg c) (D_Choices__find : Mtd P w K mg base CX0 k c.Choices "_find" p_Choices__find sp') (hn : n = 0 ∨ ∃ n', n = n' + 1 ∧ sp' = spFind P w K c n') (F : FnP K "_find" "Choices._find" s_Choices__find f fd) : FnOk P w K mg base CX0 (k + 1) f fd p_Choices__find (spFind P w K c n) := by
  refine F.ok sc_Choices__find (fun vs H Q E h => by obtain ⟨_, _, _, _, _, _, _, _, _, _, _, _, _, _, _, rfl, _⟩ := h; rfl) (fun cdv A outer s H vs Q E hr h => ?_)
  refine ⟨_, PSs.nox (pss_cons (ps_if (PW.pt (pw_or (pt_cmpR op_ge (pe_callB call_len_seq (by rfl) T.b_len PySem.boot_len (pa_cons (pv 4) pa_nil)) (pv 5) (by rfl)) (pw_or1 (pt_not (pt_val (pe_dget (hu_of hr) (pe_ix ix_list (pe_fld (pv 0) rfl) (pv 3) (fun _ _ => rfl)) (pv 2) (fun _ _ => rfl)))))))
     (pss_one (ps_retN))
     pss_nil)
     (pss_cons (ps_if (pt_cmpR op_eq (pv 3) pe_int (by rfl))
     (pss_cons (ps_expr (pe_bm PySem.F.plainAttrs_list PySem.F.slot_list_append PySem.F.type_list_append mt_append (pv 4) (pa_cons (pv 1) pa_nil)))
     (pss_one (ps_retN)))
     pss_nil)
     (pss_one (ps_for PassesOwn.never rfl (pi_range1 (by rfl) T.b_range (pa_cons (pe_ix ix_tup (pe_fld (pv 0) rfl) pe_int (fun _ _ => rfl)) pa_nil)) (pg_name (i := 6) sc_Choices__find.nd rfl (Or.inl rfl))
     (pss_cons (ps_set (i := 7) sc_Choices__find.nd rfl (Or.inl rfl) (pe_ix ix_tup (pe_ix ix_tup (pe_ix ix_tup (pe_fld (pv 0) rfl) pe_int (fun _ _ => rfl)) (pe_ix ix_tup (pv 2) pe_int (fun _ _ => rfl)) (fun _ _ => rfl)) (pv 6) (fun _ _ => rfl)))
     (pss_cons (ps_set (i := 8) sc_Choices__find.nd rfl (Or.inl rfl) (pe_ix ix_tup (pe_ix ix_tup (pe_ix ix_tup (pe_fld (pv 0) rfl) pe_int (fun _ _ => rfl)) (pe_ix ix_tup (pv 2) pe_int (fun _ _ => rfl)) (fun _ _ => rfl)) (pv 6) (fun _ _ => rfl)))
     (pss_one (ps_expr (pe_m (pv 0) T.k_Choices D_Choices__find hr (pa_cons (pe_op op_cat (pv 1) (pe_lst (pa_cons (pv 6) pa_nil))) (pa_cons (pe_tup (pa_cons (pv 7) (pa_cons (pv 8) pa_nil))) (pa_cons (pe_op op_sub (pv 3) pe_int) (pa_cons (pv 4) (pa_cons (pv 5) pa_nil)))))))))))))), ?_⟩
  obtain ⟨x, al, fl, wv, pv, m, m', L, most, H0, wd, s, t, us, found, rfl, ch, wf, wf', hk, hnL, nal, fr, ⟨wl, rfl, hwl, hwl0, nwl⟩, hwlen, hn500, ⟨tp, rfl, htp⟩, hs, ht, hfl, als, hmost, hfound, kq⟩ := h
  obtain ⟨⟨dx, v1, v2, ob, hM, hM'⟩, ds, hds, hdl, hdd⟩ := id ch
  obtain ⟨a, b, d, rs, rfl, ha, hb, hrs, hd⟩ := id hM
  obtain ⟨a', b', d', rs', rfl, ha', hb', hrs', hd'⟩ := id hM'
  have hk4 := wf.k4
  have hnd : n < ds.length := by omega
  obtain ⟨ld, hld1, hld⟩ := hdd n ds[n] (List.getElem?_eq_getElem hnd)
  have hget : ds[n]? = some (.ref ld) := by rw [List.getElem?_eq_getElem hnd, hld1]
  have hdg : DGet H ld (.ref tp) (some (.bl (Mai.Mach.lead m m' n s t))) := .inr ⟨_, wk [s, t], tp, .inl hld, rfl, by rw [wk_kV]; exact htp, (ldD_val m m' n _ (cp_mem.mpr ⟨hs, ht⟩)).symm⟩
  refine ⟨_, rfl, fl, us, rfl, .inl (SqL.of hfl), _, rfl, _, _, rfl, rfl, _, rfl, ?_⟩
  rw [als.len]
  have stop : (most ≤ found.length ∨ Mai.Mach.lead m m' n s t = false) → Mai.Mach.findP m m' most n wd s t found = found := fun h => by
    cases n with
    | zero => unfold Mai.Mach.findP; rw [if_pos h]
    | succ n => unfold Mai.Mach.findP; rw [if_pos h]
  by_cases c1 : most ≤ found.length
  · refine iteP (decide_eq_true (by omega)) (iteP rfl ?_)
    exact kq H us (Tk.refl H) (fun _ _ _ h => h) hfl (by rw [stop (.inl c1)]; exact als)
  refine iteN (decide_eq_false (by omega)) ⟨_, rfl, fget T.fX (i := 2) ob rfl rfl ⟨_, rfl, al, ds, _, _, rfl, rfl, SqL.of hds, at_nat rfl hget, _, rfl, ld, _, rfl, hdg, _, rfl, ?_⟩⟩
  cases c2 : Mai.Mach.lead m m' n s t with
  | false => exact iteP rfl (kq H us (Tk.refl H) (fun _ _ _ h => h) hfl (by rw [stop (.inr c2)]; exact als))
  | true =>
  have go : ¬ (most ≤ found.length ∨ Mai.Mach.lead m m' n s t = false) := fun z => by
    rcases z with z | z
    · exact c1 z
    · rw [c2] at z; cases z
  refine iteN rfl ⟨_, rfl, rfl, _, rfl, ?_⟩
  rcases hn with rfl | ⟨n', rfl, rfl⟩
  · refine iteP (d_t rfl) ⟨_, rfl, .inl ⟨rfl, _, SqL.of hfl⟩, _, rfl, fl, us, _, rfl, rfl, hfl, by rw [als.len]; exact szl (by omega), ?_⟩
    have b1 : But (fun a => a = fl) H (upd H fl (.lst (us ++ [.ref wl]))) := but_upd
    have e : Mai.Mach.findP m m' most 0 wd s t found = found ++ [wd] := by unfold Mai.Mach.findP; rw [if_neg go]
    refine kq _ (us ++ [.ref wl]) (tk_upd hfl fun z => z) b1 upd_same ?_
    rw [e]
    exact (als.mono fun _ _ _ q => q.keep b1).snoc (LWn.keep ⟨wl, rfl, hwl, hwl0, nwl⟩ b1)
  · have e : Mai.Mach.findP m m' most (n' + 1) wd s t found = (List.range m.k).foldl (fun f a => Mai.Mach.findP m m' most n' (wd ++ [a]) (m.step s a) (m'.step t a) f) found := by
      conv => lhs; unfold Mai.Mach.findP
      rw [if_neg go]
    refine iteN (d_f fun z => by have := V.int.inj z; omega) ?_
    refine ⟨_, rfl, fget T.fX (i := 0) ob rfl rfl ⟨a, _, _, _, rfl, rfl, SqT.of ha, at_nat (j := 0) rfl rfl, _, rfl, by omega, by omega, for_range (fun j σ H5 => ∃ (s6 s7 s8 : Option V) (us5 : List V), σ = [some (V.ref x), some (V.ref wl), some (V.ref tp), some (nv (n' + 1)), some (V.ref fl), some (nv most), s6, s7, s8] ∧ Tk H H5 ∧ But (fun a => a = fl) H H5 ∧ (∀ a, H5 a = none → H0 a = none) ∧ H5 fl = some (.lst us5) ∧ Als (LWn H0 H5 fl) us5 ((List.range j).foldl (fun f a => Mai.Mach.findP m m' most n' (wd ++ [a]) (m.step s a) (m'.step t a) f) found) ∧ ((List.range j).foldl (fun f a => Mai.Mach.findP m m' most n' (wd ++ [a]) (m.step s a) (m'.step t a) f) found).length ≤ 60)
      ⟨_, _, _, us, rfl, Tk.refl H, fun _ _ _ h => h, fr, hfl, als, hfound⟩ ?_ ?_⟩⟩
    · rintro j σ H5 hj ⟨s6, s7, s8, us5, rfl, t5, b5, fr5, hfl5, als5, hl5⟩
      have hjk : j < m.k := by omega
      obtain ⟨g1, g2⟩ := step_get wf hs hjk
      obtain ⟨g1', g2'⟩ := step_get wf' ht (by omega : j < m'.k)
      obtain ⟨x2, hx2, a2, rfl, ha2⟩ := hrs.get (row_get wf hs)
      obtain ⟨x2', hx2', a2', rfl, ha2'⟩ := hrs'.get (row_get wf' ht)
      have ob5 := b5 x _ (ne_of ob hfl fun z => by cases z) ob
      refine ⟨_, rfl, fget T.fX (i := 0) ob5 rfl rfl ⟨a, _, _, _, rfl, rfl, SqT.of (t5.at ha), at_nat (j := 2) rfl rfl, _, rfl, tp, _, _, _, rfl, rfl, SqT.of (t5.at htp), at_nat (j := 0) rfl rfl, b, _, _, _, rfl, rfl, SqT.of (t5.at hb), at_nat rfl hx2, _, rfl, a2, _, _, _, rfl, rfl, SqT.of (t5.at ha2), at_nat (by omega) (nvs_get g1), ?_⟩⟩
      refine ⟨_, rfl, fget T.fX (i := 1) ob5 rfl rfl ⟨a', _, _, _, rfl, rfl, SqT.of (t5.at ha'), at_nat (j := 2) rfl rfl, _, rfl, tp, _, _, _, rfl, rfl, SqT.of (t5.at htp), at_nat (j := 1) rfl rfl, b', _, _, _, rfl, rfl, SqT.of (t5.at hb'), at_nat rfl hx2', _, rfl, a2', _, _, _, rfl, rfl, SqT.of (t5.at ha2'), at_nat (by omega) (nvs_get g1'), ?_⟩⟩
      refine ⟨_, rfl, x, dx, _, rfl, ob5, zip_none (by decide +kernel), _, rfl, _, rfl, sz1, fun l1 hl1 => ?_⟩
      have hwl5 := b5 wl _ nwl hwl
      have e6 : Ex H5 (upd H5 l1 (.lst [.int (0 + (j : Int))])) := Ex.new hl1
      refine ⟨wl, l1, _, _, rfl, rfl, e6 wl _ hwl5, upd_same, by rw [nvs_len]; exact szle (by show _ + 1 < _; omega), fun l2 hl2 => ?_⟩
      have e7 := e6.trans (Ex.new (o := HO.lst (nvs wd ++ [.int (0 + (j : Int))])) hl2)
      have hl27 : upd (upd H5 l1 (.lst [.int (0 + (j : Int))])) l2 (.lst (nvs wd ++ [.int (0 + (j : Int))])) l2 = some (.lst (nvs (wd ++ [j]))) := by
        rw [upd_same, nvs_app, Int.zero_add]
        rfl
      have hl20 : H0 l2 = none := fr5 l2 (fresh_back e6 hl2)
      have nl2 : l2 ≠ fl := (ne_of_none (e6 fl _ hfl5) hl2).symm
      generalize upd (upd H5 l1 (.lst [.int (0 + (j : Int))])) l2 (.lst (nvs wd ++ [.int (0 + (j : Int))])) = H7 at *
      refine ⟨_, rfl, _, rfl, sz2, fun tq htq => ?_⟩
      have e8 : Ex H7 (upd H7 tq (.tup [nv (m.step s j), nv (m'.step t j)])) := Ex.new htq
      have htq8 : upd H7 tq (.tup [nv (m.step s j), nv (m'.step t j)]) tq = some (.tup (nvs [m.step s j, m'.step t j])) := upd_same
      have e58 := e7.trans e8
      have hl28 := e8 l2 _ hl27
      generalize upd H7 tq (.tup [nv (m.step s j), nv (m'.step t j)]) = H8 at *
      have hfl8 := e58 fl _ hfl5
      have ch8 := (ch.keep t5 b5 (fun z o hz ho => by rw [hz, hfl] at ho; cases ho; exact ⟨_, rfl⟩) nal).ex e58
      refine ⟨_, rfl, _, _, rfl, rfl, _, rfl, _, rfl, x, al, fl, .ref l2, .ref tq, m, m', L, most, H0, wd ++ [j], m.step s j, m'.step t j, us5, _, ?_, ch8, wf, wf', hk, by omega, nal, fun z hz => fr5 z (fresh_back e58 hz), ⟨l2, rfl, hl28, hl20, nl2⟩, by rw [List.length_append]; show _ + 1 ≤ _; omega, by omega, ⟨tq, rfl, htq8⟩, g2, g2', hfl8, als5.mono (fun _ _ _ q => q.keep (fun z o _ hz => e58 z o hz)), hmost, hl5, fun H9 us9 t9 b9 hfl9 als9 => ?_⟩
      · have en : ((n' + 1 : Nat) : Int) - 1 = (n' : Int) := by omega
        show [V.ref x, V.ref l2, V.ref tq, V.int (((n' + 1 : Nat) : Int) - 1), V.ref fl, nv most] = _
        rw [en]
        rfl
      · refine ⟨_, _, _, us9, rfl, t5.trans ((tk_ex e58).trans t9), but_tr (but_ex b5 e58) b9, fun z hz => fr5 z ?_, hfl9, ?_, ?_⟩
        · cases q : H5 z with
          | none => rfl
          | some o =>
            by_cases qf : z = fl
            · rw [qf, hfl9] at hz; cases hz
            · rw [b9 z o qf (e58 z o q)] at hz; cases hz
        · rw [List.range_succ, List.foldl_append]
          exact als9
        · rw [List.range_succ, List.foldl_append]
          exact findP_len m m' most n' _ _ _ _ hl5 hmost
    · rintro σ H5 ⟨s6, s7, s8, us5, rfl, t5, b5, fr5, hfl5, als5, hl5⟩
      have ek : (m.k : Int).toNat = m.k := by omega
      rw [ek] at als5
      exact kq H5 us5 t5 b5 hfl5 (by rw [e]; exact als5)
theorem find_all {f : Addr} {fd : FuncData} (T : Tx K mg c) (F : FnP K "_find" "Choices._find" s_Choices__find f fd) (M : Meth K c.Choices "_find" f) (B : Binds K fd p_Choices__find []) : ∀ n, FnOk P w K mg base CX0 (n + 1) f fd p_Choices__find (spFind P w K c n)
  | 0 => find_turn (k := 0) (sp' := fun _ _ _ _ => False) T ⟨f, fd, M, B, ⟨fun _ _ _ _ h => h.elim, fun _ _ _ _ _ _ _ _ _ _ _ _ _ h => h.elim⟩⟩ (.inl rfl) F
  | n + 1 => find_turn T ⟨f, fd, M, B, find_all T F M B n⟩ (.inr ⟨n, rfl, rfl⟩) F
theorem ok_Choices__find {f : Addr} {fd : FuncData} (T : Tx K mg c) (F : FnP K "_find" "Choices._find" s_Choices__find f fd) (M : Meth K c.Choices "_find" f) (B : Binds K fd p_Choices__find []) : FnOk P w K mg base CX0 60 f fd p_Choices__find (sp_Choices__find P w K c) :=
  ⟨fun vs H Q E ⟨n, _, h⟩ => (find_all (P := P) (w := w) (base := base) T F M B n).len vs H Q E h, fun A outer s H args us vs Q E hr e bt r ⟨n, hn, h⟩ => (find_all T F M B n).run A outer s H args us vs Q E (hr.mono (by omega)) e bt r h⟩
theorem BoxAt.ex {H H' : Hp} {x pk : Addr} {m : Mai.Mach} {ps : List Nat} (h : BoxAt c H x pk m ps) (e : Ex H H') : BoxAt c H' x pk m ps := let ⟨dx, mv, u, h1, h2, h3⟩ := h.ob; ⟨dx, mv, u, e x _ h1, h2.keep (tk_ex e), e pk _ h3⟩
theorem ch_ne {H : Hp} {x al a : Addr} {m m' : Mai.Mach} {L : Nat} {wd : List Nat} (ch : ChoAt c H x al m m' (L + 1)) (h : H a = some (.lst (nvs wd))) : a ≠ al := fun z => by
  obtain ⟨_, ds, hds, hdl, hdd⟩ := ch
  rw [z, hds] at h
  have e : ds = nvs wd := HO.lst.inj (Option.some.inj h)
  have h0 : 0 < ds.length := by omega
  obtain ⟨q, hq, _⟩ := hdd 0 ds[0] (List.getElem?_eq_getElem h0)
  have h1 : (nvs wd)[0]? = some (.ref q) := by rw [← e, List.getElem?_eq_getElem h0, hq]
  obtain ⟨y, _, hy⟩ := nvs_of h1
  cases hy
theorem ok_Honest_judge {f : Addr} {fd : FuncData} (T : Tx K mg c) (AL : AlkT K mg c) (D_check_machine : Dfn P w K mg base CX0 2 "check_machine" p_check_machine (sp_check_machine P w K c)) (D_first_difference : Dfn P w K mg base (L2.CX P w) 2 "first_difference" p_first_difference (sp_first_difference P w K c))
    (D_Choices_init : Mkd P w K mg base CX0 1 "Choices" c.Choices p_Choices_init (sp_Choices_init P w K c)) (D_Choices_words : Mtd P w K mg base CX0 61 c.Choices "words" p_Choices_words (sp_Choices_words P w K c)) (D_Honest__next_pick : Mtd P w K mg base CX0 1 c.Honest "_next_pick" p_Honest__next_pick (sp_Honest__next_pick P w K c))
    (F : FnP K "judge" "Honest.judge" s_Honest_judge f fd) : FnOk P w K mg base CX0 62 f fd p_Honest_judge (sp_Honest_judge P w K c) := by
  obtain ⟨f1, fd1, g1, k1, b1, G1⟩ := D_first_difference.ex
  refine F.ok sc_Honest_judge (fun vs H Q E h => by obtain ⟨_, _, _, _, _, _, rfl, _⟩ := h; rfl) (fun cdv A outer s H vs Q E hr h => ?_)
  refine ⟨_, PSs.nox (pss_cons (ps_expr (pe_c D_check_machine (hr.mono (by decide)) (pa_cons (pv 1) pa_nil)))
     (pss_cons (ps_if (PW.pt (pw_or (pt_cmpR op_ne (pe_ix ix_tup (pv 1) pe_int (fun _ _ => rfl)) (pe_ix ix_tup (pe_fld (pv 0) rfl) pe_int (fun _ _ => rfl)) (by rfl)) (pw_or1 (pt_cmpR op_ne (pe_ix ix_tup (pv 1) pe_int (fun _ _ => rfl)) (pe_ix ix_tup (pe_fld (pv 0) rfl) pe_int (fun _ _ => rfl)) (by rfl)))))
     (pss_one (ps_never))
     pss_nil)
     (pss_cons (ps_try_only (tb := fun W => tAsg (tCallS (sp_first_difference P w K c) (WE W) (tCons (tFld K (tVar 0) "_machine") (tCons (tVar 1) tNil))) (gName 2)) (ts := fun _ _ _ => tRet (tC .non)) (Wout := fun _ _ _ _ => False) rfl rfl ⟨rfl, by decide, Or.inl AL.g⟩ tk0
    (fun W pn xe tk _ => pss_one (ps_set (i := 2) sc_Honest_judge.nd rfl (Or.inl rfl) (pe_callS G1 (hr.mono (by decide)) rfl g1 k1 b1 (fun σ => passAt tk σ) (by exact (pa_cons (pe_fld (pv 0) rfl) (pa_cons (pv 1) pa_nil))))))
    (fun _ _ _ _ _ _ _ => pss_one (ps_ret pe_non)))
     (pss_cons (ps_set (i := 3) sc_Honest_judge.nd rfl (Or.inl rfl) (pe_mk D_Choices_init (hr.mono (by decide)) (pa_cons (pe_fld (pv 0) rfl) (pa_cons (pv 1) pa_nil))))
     (pss_cons (ps_set (i := 4) sc_Honest_judge.nd rfl (Or.inl rfl) (pe_lst pa_nil))
     (pss_cons (ps_for PassesOwn.never rfl (pi_range1 (by rfl) T.b_range (pa_cons pe_int pa_nil)) (pg_name (i := 5) sc_Honest_judge.nd rfl (Or.inl rfl))
     (pss_one (ps_expr (pe_bm PySem.F.plainAttrs_list PySem.F.slot_list_extend PySem.F.type_list_extend mt_extend (pv 4) (pa_cons (pe_m (pv 3) T.k_Choices D_Choices_words (hr.mono (by decide)) (pa_cons (pe_op op_add (pe_callB call_len_seq (by rfl) T.b_len PySem.boot_len (pa_cons (pv 2) pa_nil)) (pv 5)) (pa_cons (pe_op op_sub (pe_gi rfl T.c_MAX_CHOICES) (pe_callB call_len_seq (by rfl) T.b_len PySem.boot_len (pa_cons (pv 4) pa_nil))) pa_nil))) pa_nil)))))
     (pss_one (ps_ret (pe_ix ix_list (pv 4) (pe_op op_modN (pe_m0 (pv 0) T.k_Honest D_Honest__next_pick (hr.mono (by decide))) (pe_callB call_len_seq (by rfl) T.b_len PySem.boot_len (pa_cons (pv 4) pa_nil))) (fun _ _ => rfl)))))))))), ?_⟩
  obtain ⟨x, pk, pv, m, m', ps, rfl, bx, hps, hM', wf, wf', hk, ho, hn6, hn7, kn, ks⟩ := h
  refine ⟨_, rfl, pv, m', rfl, hM', wf', fun H1 e1 => ?_⟩
  have bx1 := bx.ex e1
  have hM1' := hM'.keep (tk_ex e1)
  obtain ⟨dx, mv, u, ob, hM, hpk⟩ := id bx1.ob
  obtain ⟨a, b, d, rs, rfl, ha, _⟩ := id hM
  obtain ⟨a', b', d', rs', rfl, ha', _⟩ := id hM1'
  refine ⟨_, rfl, a', _, _, _, rfl, rfl, SqT.of ha', at_nat (j := 0) rfl rfl, _, rfl, fget T.fB (i := 0) ob rfl rfl ⟨a, _, _, _, rfl, rfl, SqT.of ha, at_nat (j := 0) rfl rfl, rfl, _, rfl, iteN (nd_f (by rw [hk])) ?_⟩⟩
  refine ⟨_, rfl, a', _, _, _, rfl, rfl, SqT.of ha', at_nat (j := 1) rfl rfl, _, rfl, fget T.fB (i := 0) ob rfl rfl ⟨a, _, _, _, rfl, rfl, SqT.of ha, at_nat (j := 1) rfl rfl, rfl, _, rfl, iteN (nd_f (by rw [ho])) ?_⟩⟩
  refine ⟨_, rfl, fget T.fB (i := 0) ob rfl rfl ⟨_, rfl, .ref a, .ref a', m, m', rfl, hM, hM1', wf, wf', hk, ho, fun hnone H2 e2 => ⟨true, AL.e, fun _ _ _ => kn (Mai.Mach.search_none wf wf' hk hnone) H2 (e1.trans e2), fun z => nomatch z⟩, fun wd hw H2 r e2 hr2 => ?_⟩⟩
  obtain ⟨hok, hdiff, hlt⟩ := Mai.Mach.search_some wf wf' hk hw
  have hl42 : wd.length < 42 := Nat.lt_of_lt_of_le hlt (Nat.mul_le_mul hn6 hn7)
  have e12 := e1.trans e2
  have bx2 := bx1.ex e2
  have ob2 := e2 x _ ob
  refine ⟨_, rfl, fget T.fB (i := 0) ob2 rfl rfl ⟨_, rfl, fun x2 dx2 nx2 ndx2 ned2 => ?_⟩⟩
  have em := make_ex (o := .ins c.Choices dx2 []) nx2 ndx2 ned2
  refine ⟨x2, dx2, .ref a, .ref a', m, m', rfl, upd_same, (hM.keep (tk_ex e2)).keep (tk_ex em), (hM1'.keep (tk_ex e2)).keep (tk_ex em), wf, wf', fun H3 al hal ch3 b3 => ⟨rfl, ?_⟩⟩
  have e3 := ex_but em b3 nx2
  have e03 := e12.trans e3
  have hal0 : H al = none := fresh_back e12 (fresh_back em hal)
  refine ⟨by decide, fun wl hwl => ?_⟩
  have e4 : Ex H3 (upd H3 wl (.lst [])) := Ex.new hwl
  have hwl4 : upd H3 wl (.lst []) wl = some (.lst []) := upd_same
  have hwl0 : H wl = none := fresh_back e03 hwl
  have nawl : al ≠ wl := by
    obtain ⟨_, ds, hds, _⟩ := ch3
    exact ne_of_none hds hwl
  generalize upd H3 wl (.lst []) = H4 at *
  have hr4 := (e3.trans e4) r _ hr2
  have ch4 := ch3.ex e4
  have nrw : r ≠ wl := ne_of_none (e3 r _ hr2) hwl
  refine ⟨3, rfl, by decide, by decide, for_range (fun i σ H5 => ∃ (s5 : Option V) (L' : Nat) (us : List V), σ = [some (V.ref x), some (V.ref a'), some (V.ref r), some (V.ref x2), some (V.ref wl), s5] ∧ Ex H H5 ∧ ChoAt c H5 x2 al m m' (L' + 1) ∧ L' ≤ 60 ∧ H5 r = some (.lst (nvs wd)) ∧ H5 wl = some (.lst us) ∧ Als (fun v w => ∃ a, v = .ref a ∧ H5 a = some (.lst (nvs w)) ∧ H a = none ∧ a ≠ wl) us (Mai.Mach.choices m m' wd.length i))
    ⟨_, 0, [], rfl, e03.trans e4, ch4, by decide, hr4, hwl4, Als.nil⟩ ?_ ?_⟩
  · rintro i σ H5 hi ⟨s5, L', us, rfl, e5, ch5, hL', hr5, hwl5, als5⟩
    have hi3 : i < 3 := by
      have : ((3 : Int)).toNat = 3 := rfl
      omega
    have hcl := (Mai.Mach.choices_ok wf wf' hk wd.length i).2
    obtain ⟨⟨cdx, cv1, cv2, cob, _, _⟩, _⟩ := id ch5
    refine ⟨_, rfl, .inl ⟨rfl, _, SqL.of hwl5⟩, _, rfl, x2, cdx, _, rfl, cob, zip_none (by decide +kernel), _, rfl, r, _, rfl, .inl (SqL.of hr5), _, rfl, _, _, rfl, rfl, _, rfl, wl, us, rfl, .inl (SqL.of hwl5), _, _, rfl, rfl, x2, al, m, m', L', wd.length + i, 60 - (Mai.Mach.choices m m' wd.length i).length, ?_, ch5, wf, wf', hk, hL', by omega, by omega, fun H6 r2 us2 L2' ch6 hL2 t6 b6 hr20 hr26 als6 => ?_⟩
    · rw [nvs_len, als5.len]
      show [V.ref x2, V.int ((wd.length : Int) + (0 + (i : Int))), V.int ((60 : Int) - ((Mai.Mach.choices m m' wd.length i).length : Int))] = _
      have e1 : (wd.length : Int) + (0 + (i : Int)) = ((wd.length + i : Nat) : Int) := by omega
      have e2 : (60 : Int) - ((Mai.Mach.choices m m' wd.length i).length : Int) = ((60 - (Mai.Mach.choices m m' wd.length i).length : Nat) : Int) := by omega
      rw [e1, e2]
      rfl
    · have hwl6 := b6 wl _ nawl.symm hwl5
      have e6 : Ex H H6 := fun z o hz => b6 z o (ne_of_none hz hal0) (e5 z o hz)
      have nr2w : r2 ≠ wl := (ne_of_none hwl5 hr20).symm
      have hl6 : us2.length ≤ 60 := by
        rw [als6.len]
        have := (Mai.Mach.words_ok wf wf' hk (wd.length + i) (60 - (Mai.Mach.choices m m' wd.length i).length)).2
        omega
      refine ⟨wl, r2, us, us2, rfl, rfl, hwl6, hr26, by rw [als5.len]; exact szle (by omega), ?_⟩
      have bw : But (fun a => a = wl) H6 (upd H6 wl (.lst (us ++ us2))) := but_upd
      refine ⟨_, L2', us ++ us2, rfl, Ex.mut e6 hwl0, ch6.keep (tk_upd hwl6 fun z => z) bw (fun z o hz ho => by rw [hz, hwl6] at ho; cases ho; exact ⟨_, rfl⟩) nawl, hL2, ?_, upd_same, ?_⟩
      · rw [upd_ne nrw]
        exact b6 r _ (ch_ne ch5 hr5) hr5
      · show Als _ _ (Mai.Mach.choices m m' wd.length i ++ Mai.Mach.wordsP m m' (wd.length + i) (60 - (Mai.Mach.choices m m' wd.length i).length))
        refine (als5.mono fun v w _ ⟨z, h1, h2, h3, h4⟩ => ⟨z, h1, by rw [upd_ne h4]; exact b6 z _ (ch_ne ch5 h2) h2, h3, h4⟩).app (als6.mono fun v w _ ⟨z, h1, h2, h3⟩ => ?_)
        have nz : z ≠ wl := (ne_of_none hwl5 h3).symm
        exact ⟨z, h1, by rw [upd_ne nz]; exact h2, fresh_back e5 h3, nz⟩
  · rintro σ H5 ⟨s5, L', us, rfl, e5, ch5, hL', hr5, hwl5, als5⟩
    have e3' : ((3 : Int)).toNat = 2 + 1 := rfl
    rw [e3'] at als5
    have hcok := (Mai.Mach.choices_ok wf wf' hk wd.length (2 + 1)).1
    have hcpos := Mai.Mach.choices_pos wf wf' hk hok hdiff 2
    have bx5 := bx.ex e5
    obtain ⟨dx5, mv5, u5, ob5, _, _⟩ := id bx5.ob
    refine ⟨_, rfl, _, rfl, x, dx5, _, rfl, ob5, zip_none (by decide +kernel), x, pk, m, ps, rfl, bx5, hps, fun H6 k bx6 t6 b6 => ?_⟩
    have nwx : wl ≠ x := ne_of hwl5 ob5 fun z => by cases z
    have hwl6 := b6 wl _ nwx hwl5
    have hul : us.length = (Mai.Mach.choices m m' wd.length (2 + 1)).length := als5.len
    have hm : (k : Int).fmod ((us.length : Nat) : Int) = ((k % us.length : Nat) : Int) := by
      rw [Int.fmod_eq_emod_of_nonneg _ (by omega)]
      omega
    have hlt2 : k % us.length < us.length := Nat.mod_lt _ (by omega)
    obtain ⟨wj, hwj, z, hz1, hz2, hz3, hz4⟩ := als5.of (List.getElem?_eq_getElem hlt2)
    have hzx : z ≠ x := ne_of hz2 ob5 fun q => by cases q
    obtain ⟨o1, o2, o3⟩ := hcok wj (List.mem_of_getElem? hwj)
    refine ⟨_, rfl, wl, us, rfl, .inl (SqL.of hwl6), _, _, rfl, rfl, by omega, wl, us, _, _, rfl, rfl, SqL.of hwl6, at_nat hm (List.getElem?_eq_getElem hlt2), ?_⟩
    rw [hz1]
    exact ks H6 z wj bx6 ((tk_ex e5).trans t6) (ex_but' e5 b6) hz3 (b6 z _ hzx hz2) o1 (by omega) o3
end
end MW
/-! ## W13 -/
namespace MW
open PySem PySem.Spec PyProof.Rows L2 Evl
/-! ### promises of the law's helpers -/
def sp_law_row (P : Program) (w : World) (K : PySem.W.Frag) (c : Cs) : Sp := fun vs H Q _ => ∃ (a : Addr) (ns : List Int), vs = [.ref a] ∧ SqL K H a (ns.map V.int) ∧ ns.length ≤ 63 ∧
  ∀ H' r row, Ex H H' → H r = none → H' r = some (.lst (nvs row)) → Q (.ref r) H'
def sp_law_at (P : Program) (w : World) (K : PySem.W.Frag) (c : Cs) : Sp := fun vs H Q _ => ∃ (r : Addr) (i : Nat) (row : List Nat), vs = [.ref r, nv i] ∧ H r = some (.lst (nvs row)) ∧ Q (nv (row.getD i 0)) H
def sp_law_machine (P : Program) (w : World) (K : PySem.W.Frag) (c : Cs) : Sp := fun vs H Q _ => ∃ (r : Addr) (i k o n : Nat) (row : List Nat), vs = [.ref r, nv i, nv k, nv o, nv n] ∧ H r = some (.lst (nvs row)) ∧ 1 ≤ k ∧ k ≤ 4 ∧ 1 ≤ o ∧ o ≤ 6 ∧ 1 ≤ n ∧ n ≤ 30 ∧
  ∀ H' v m, Ex H H' → MF H' v m → m.WF → m.k = k → m.o = o → m.n = n → Q v H'
def sp_law_state (P : Program) (w : World) (K : PySem.W.Frag) (c : Cs) : Sp := fun vs H Q _ => ∃ (mv wv : V) (m : Mai.Mach) (wd : List Nat), vs = [mv, wv] ∧ MA H mv m ∧ m.WF ∧ LW H wv wd ∧ Mai.okw m.k wd ∧ Q (nv (m.run 0 wd)) H
def sp_law_output (P : Program) (w : World) (K : PySem.W.Frag) (c : Cs) : Sp := fun vs H Q _ => ∃ (mv wv : V) (m : Mai.Mach) (wd : List Nat), vs = [mv, wv] ∧ MA H mv m ∧ m.WF ∧ LW H wv wd ∧ Mai.okw m.k wd ∧ Q (nv (m.out 0 wd)) H
def sp_law_classes (P : Program) (w : World) (K : PySem.W.Frag) (c : Cs) : Sp := fun vs H Q _ => ∃ (mv : V) (m : Mai.Mach), vs = [mv] ∧ MA H mv m ∧ m.WF ∧ ∀ r H', Ex H H' → H r = none → H' r = some (.lst (nvs m.cls)) → Q (.ref r) H'
def sp_law_least (P : Program) (w : World) (K : PySem.W.Frag) (c : Cs) : Sp := fun vs H Q _ => ∃ (mv : V) (m : Mai.Mach), vs = [mv] ∧ MA H mv m ∧ m.WF ∧ ∀ v H', Ex H H' → MA H' v m.least → Q v H'
def sp_law_digits (P : Program) (w : World) (K : PySem.W.Frag) (c : Cs) : Sp := fun vs H Q _ => ∃ (n : Nat), vs = [nv n] ∧ Q (nv (Mai.digs n)) H
def sp_law_bound (P : Program) (w : World) (K : PySem.W.Frag) (c : Cs) : Sp := fun vs H Q _ => ∃ (n k l : Nat), vs = [nv n, nv k, nv l] ∧ n ≤ 1000 ∧ k ≤ 1000 ∧ Q (nv (n * n * (k + 1) + n * (Mai.digs l + 2))) H
def sp_law_was (P : Program) (w : World) (K : PySem.W.Frag) (c : Cs) : Sp := fun vs H Q _ => ∃ (mv : V) (m : Mai.Mach) (r : Addr) (row : List Nat), vs = [mv, .ref r] ∧ MF H mv m ∧ m.WF ∧ H r = some (.lst (nvs row)) ∧ m.n ≤ 6 ∧
  ∀ H' v m', Ex H H' → MF H' v m' → m'.WF → m'.k = m.k → m'.o = m.o → m'.n ≤ 7 → Q v H'
end MW
/-! ## P11 -/
namespace MW
open PySem PySem.Spec PyProof.Rows L2 Evl
section
variable {P : Program} {w : World} {K : PySem.W.Frag} {mg : Str → Option Value} {base : Heap} {c : Cs}
theorem fmod_nat (a b : Nat) (h : 0 < b) : (a : Int).fmod (b : Int) = ((a % b : Nat) : Int) := by
  rw [Int.fmod_eq_emod_of_nonneg _ (by omega)]
  omega
theorem fdiv_nat (a b : Nat) : (a : Int).fdiv (b : Int) = ((a / b : Nat) : Int) := by
  rw [Int.fdiv_eq_ediv_of_nonneg _ (by omega)]
  omega
theorem abs_nat (i : Int) : (if i < 0 then -i else i) = ((i.natAbs : Nat) : Int) := by split <;> omega
theorem nz9 : (1009 : Int) ≠ 0 := by decide
theorem nz2 : (2147483647 : Int) ≠ 0 := by decide
theorem ok_law_row {f : Addr} {fd : FuncData} (T : Tx K mg c)  (F : FnP K "_law_row" "_law_row" s_law_row f fd) : FnOk P w K mg base CX0 1 f fd p_law_row (sp_law_row P w K c) := by
  refine F.ok sc_law_row (fun vs H Q E h => by obtain ⟨_, _, rfl, _⟩ := h; rfl) (fun cdv A outer s H vs Q E hr h => ?_)
  refine ⟨_, PSs.nox (pss_cons (ps_set (i := 1) sc_law_row.nd rfl (Or.inl rfl) (pe_lst pa_nil))
     (pss_cons (ps_for PassesOwn.never rfl (pi_range1 (by rfl) T.b_range (pa_cons (pe_callB call_len_seq (by rfl) T.b_len PySem.boot_len (pa_cons (pv 0) pa_nil)) pa_nil)) (pg_name (i := 2) sc_law_row.nd rfl (Or.inl rfl))
     (pss_cons (ps_set (i := 3) sc_law_row.nd rfl (Or.inl rfl) (pe_callB call_abs (by rfl) T.b_abs (by decide +kernel) (pa_cons (pe_callTy call_int1 (by rfl) T.b_int (by decide +kernel) (pa_cons (pe_ix ix_list (pv 0) (pv 2) (fun _ _ => rfl)) pa_nil)) pa_nil)))
     (pss_one (ps_if (pt_cmpR op_ge (pv 3) (pe_op op_pow pe_int pe_int) (by rfl))
     (pss_one (ps_for PassesOwn.never rfl (pi_range1 (by rfl) T.b_range (pa_cons pe_int pa_nil)) (pg_name (i := 4) sc_law_row.nd rfl (Or.inl rfl))
     (pss_one (ps_if (pt_cmpR op_gt (pv 3) pe_int (by rfl))
     (pss_cons (ps_expr (pe_bm PySem.F.plainAttrs_list PySem.F.slot_list_append PySem.F.type_list_append mt_append (pv 1) (pa_cons (pe_op op_modN (pe_callTy call_int1 (by rfl) T.b_int (by decide +kernel) (pa_cons (pv 3) pa_nil)) pe_int) pa_nil)))
     (pss_one (ps_set (i := 3) sc_law_row.nd rfl (Or.inl rfl) (pe_op op_fdivN (pv 3) pe_int))))
     pss_nil))))
     (pss_cons (ps_set (i := 5) sc_law_row.nd rfl (Or.inl rfl) (pe_op op_modN (pe_callTy call_int1 (by rfl) T.b_int (by decide +kernel) (pa_cons (pe_op op_add (pe_op op_add (pe_op op_mul (pv 3) pe_int) (pe_op op_mul (pv 2) pe_int)) pe_int) pa_nil)) pe_int))
     (pss_one (ps_for PassesOwn.never rfl (pi_range1 (by rfl) T.b_range (pa_cons pe_int pa_nil)) (pg_name (i := 4) sc_law_row.nd rfl (Or.inl rfl))
     (pss_cons (ps_set (i := 5) sc_law_row.nd rfl (Or.inl rfl) (pe_op op_modN (pe_callTy call_int1 (by rfl) T.b_int (by decide +kernel) (pa_cons (pe_op op_add (pe_op op_add (pe_op op_mul (pv 5) pe_int) (pe_op op_mul pe_int (pv 4))) pe_int) pa_nil)) pe_int))
     (pss_one (ps_expr (pe_bm PySem.F.plainAttrs_list PySem.F.slot_list_append PySem.F.type_list_append mt_append (pv 1) (pa_cons (pe_op op_modN (pe_callTy call_int1 (by rfl) T.b_int (by decide +kernel) (pa_cons (pe_op op_fdivN (pv 5) pe_int) pa_nil)) pe_int) pa_nil))))))))))))
     (pss_one (ps_ret (pv 1))))), ?_⟩
  obtain ⟨a, ns, rfl, hS, hlen, kq⟩ := h
  refine ⟨by decide, fun r0 hr0 => ?_⟩
  have e1 : Ex H (upd H r0 (.lst [])) := Ex.new hr0
  refine ⟨_, rfl, a, _, rfl, .inl (ex_l e1 hS), _, rfl, by omega, by rw [List.length_map]; omega, for_range (fun i σ H2 => ∃ (s2 s3 s4 s5 : Option V) (row : List Nat), σ = [some (V.ref a), some (V.ref r0), s2, s3, s4, s5] ∧ Ex H H2 ∧ H2 r0 = some (.lst (nvs row)) ∧ row.length ≤ 40 * i) ⟨_, _, _, _, [], rfl, e1, upd_same, Nat.zero_le _⟩ ?_ ?_⟩
  · rintro i σ H2 hi ⟨s2, s3, s4, s5, row, rfl, e2, hr2, hrl⟩
    rw [List.length_map] at hi
    have hin : i < ns.length := by omega
    refine ⟨_, rfl, _, rfl, a, _, _, _, rfl, rfl, ex_l e2 hS, at_nat (j := i) (by omega) (by rw [List.getElem?_map, List.getElem?_eq_getElem hin]; rfl), .inl ⟨_, rfl, _, rfl, ?_⟩⟩
    rw [abs_nat]
    generalize (ns[i]).natAbs = cell
    have e18 : (10 : Int) ^ ((18 : Int).toNat) = 1000000000000000000 := by decide
    refine ⟨_, rfl, _, _, rfl, rfl, (by decide : (0 : Int) ≤ 18 ∧ (18 : Int) ≤ 1000000 ∧ (10 : Int).natAbs < 2 ^ 64), _, _, rfl, rfl, _, rfl, ?_⟩
    by_cases c : (cell : Int) ≥ (10 : Int) ^ ((18 : Int).toNat)
    · refine iteP (decide_eq_true c) ⟨_, rfl, by decide, by decide, for_range (fun j σ H3 => ∃ (s4 : Option V) (cl : Nat) (row : List Nat), σ = [some (V.ref a), some (V.ref r0), some (V.int (0 + (i : Int))), some (nv cl), s4, s5] ∧ Ex H H3 ∧ H3 r0 = some (.lst (nvs row)) ∧ row.length ≤ 40 * i + j) ⟨_, cell, row, rfl, e2, hr2, by omega⟩ ?_ ?_⟩
      · rintro j σ H3 hj ⟨s4, cl, row3, rfl, e3, hr3, hrl3⟩
        have hj40 : j < 40 := by have : (40 : Int).toNat = 40 := rfl; omega
        refine ⟨_, rfl, _, _, rfl, rfl, _, rfl, ?_⟩
        by_cases c2 : (cl : Int) > 0
        · refine iteP (decide_eq_true c2) ⟨_, rfl, .inl ⟨rfl, _, SqL.of hr3⟩, _, rfl, .inl ⟨_, rfl, _, _, rfl, rfl, nz9, r0, _, _, rfl, rfl, hr3, by rw [nvs_len]; exact szl (by omega), _, rfl, _, _, rfl, rfl, ⟨by decide, by decide⟩, ?_⟩⟩
          refine ⟨some (V.int (0 + (j : Int))), cl / 1009, row3 ++ [cl % 1009], ?_, Ex.mut e3 hr0, ?_, by rw [List.length_append]; show _ + 1 ≤ _; omega⟩
          · have : (cl : Int).fdiv 1009 = ((cl / 1009 : Nat) : Int) := fdiv_nat cl 1009
            show _ = [some (V.ref a), some (V.ref r0), some (V.int (0 + (i : Int))), some (V.int ((cl / 1009 : Nat) : Int)), some (V.int (0 + (j : Int))), s5]
            rw [← this]
            rfl
          · rw [upd_same, nvs_app]
            have : (cl : Int).fmod 1009 = ((cl % 1009 : Nat) : Int) := fmod_nat cl 1009 (by decide)
            show some (HO.lst (nvs row3 ++ [V.int ((cl : Int).fmod 1009)])) = _
            rw [this]
            rfl
        · exact iteN (decide_eq_false c2) ⟨_, cl, row3, rfl, e3, hr3, by omega⟩
      · rintro σ H3 ⟨s4, cl, row3, rfl, e3, hr3, hrl3⟩
        have e40 : (40 : Int).toNat = 40 := rfl
        exact ⟨_, _, _, _, row3, rfl, e3, hr3, by omega⟩
    · refine iteN (decide_eq_false c) ?_
      rw [e18] at c
      refine ⟨_, rfl, _, _, rfl, rfl, .inr ⟨by decide, by decide⟩, _, rfl, _, _, rfl, rfl, .inr ⟨by decide, by decide⟩, _, _, rfl, rfl, _, _, rfl, rfl, .inl ⟨_, rfl, _, _, rfl, rfl, nz2, ?_⟩⟩
      have em : ((cell : Int) * 48271 + (0 + (i : Int)) * 69621 + 12345).fmod 2147483647 = (((cell * 48271 + i * 69621 + 12345) % 2147483647 : Nat) : Int) := by
        have e : (cell : Int) * 48271 + (0 + (i : Int)) * 69621 + 12345 = ((cell * 48271 + i * 69621 + 12345 : Nat) : Int) := by omega
        rw [e]
        exact fmod_nat _ 2147483647 (by decide)
      refine ⟨_, rfl, by decide, by decide, for_range (fun j σ H3 => ∃ (s4 : Option V) (mx : Nat) (row : List Nat), σ = [some (V.ref a), some (V.ref r0), some (V.int (0 + (i : Int))), some (nv cell), s4, some (nv mx)] ∧ Ex H H3 ∧ H3 r0 = some (.lst (nvs row)) ∧ row.length ≤ 40 * i + j) ⟨s4, (cell * 48271 + i * 69621 + 12345) % 2147483647, row, ?_, e2, hr2, by omega⟩ ?_ ?_⟩
      · show [some (V.ref a), some (V.ref r0), some (V.int (0 + (i : Int))), some (V.int (cell : Int)), s4, some (V.int (((cell : Int) * 48271 + (0 + (i : Int)) * 69621 + 12345).fmod 2147483647))] = _
        rw [em]
        rfl
      · rintro j σ H3 hj ⟨s4, mx, row3, rfl, e3, hr3, hrl3⟩
        have hj6 : j < 6 := by have : (6 : Int).toNat = 6 := rfl; omega
        refine ⟨_, rfl, _, _, rfl, rfl, .inr ⟨by decide, by decide⟩, _, rfl, _, _, rfl, rfl, .inl ⟨by decide, by decide⟩, _, _, rfl, rfl, _, _, rfl, rfl, .inl ⟨_, rfl, _, _, rfl, rfl, nz2, ?_⟩⟩
        have em2 : ((mx : Int) * 16807 + 11 * (0 + (j : Int)) + 1).fmod 2147483647 = (((mx * 16807 + 11 * j + 1) % 2147483647 : Nat) : Int) := by
          have e : (mx : Int) * 16807 + 11 * (0 + (j : Int)) + 1 = ((mx * 16807 + 11 * j + 1 : Nat) : Int) := by omega
          rw [e]
          exact fmod_nat _ 2147483647 (by decide)
        generalize (mx * 16807 + 11 * j + 1) % 2147483647 = my at em2
        refine ⟨_, rfl, .inl ⟨rfl, _, SqL.of hr3⟩, _, rfl, _, _, rfl, rfl, ⟨by decide, by decide⟩, .inl ⟨_, rfl, _, _, rfl, rfl, nz9, r0, _, _, rfl, rfl, hr3, by rw [nvs_len]; exact szl (by omega), ?_⟩⟩
        refine ⟨some (V.int (0 + (j : Int))), my, row3 ++ [my / 7 % 1009], ?_, Ex.mut e3 hr0, ?_, by rw [List.length_append]; show _ + 1 ≤ _; omega⟩
        · show [some (V.ref a), some (V.ref r0), some (V.int (0 + (i : Int))), some (V.int (cell : Int)), some (V.int (0 + (j : Int))), some (V.int (((mx : Int) * 16807 + 11 * (0 + (j : Int)) + 1).fmod 2147483647))] = _
          rw [em2]
          rfl
        · rw [upd_same, nvs_app]
          show some (HO.lst (nvs row3 ++ [V.int (((((mx : Int) * 16807 + 11 * (0 + (j : Int)) + 1).fmod 2147483647).fdiv 7).fmod 1009)])) = _
          have h7 : (my : Int).fdiv 7 = ((my / 7 : Nat) : Int) := fdiv_nat my 7
          have h9 : ((my / 7 : Nat) : Int).fmod 1009 = ((my / 7 % 1009 : Nat) : Int) := fmod_nat (my / 7) 1009 (by decide)
          rw [em2, h7, h9]
          rfl
      · rintro σ H3 ⟨s4, mx, row3, rfl, e3, hr3, hrl3⟩
        have e6 : (6 : Int).toNat = 6 := rfl
        exact ⟨_, _, _, _, row3, rfl, e3, hr3, by omega⟩
  · rintro σ H2 ⟨s2, s3, s4, s5, row, rfl, e2, hr2, hrl⟩
    exact ⟨_, rfl, kq H2 r0 row e2 hr0 hr2⟩

theorem ok_law_at {f : Addr} {fd : FuncData} (T : Tx K mg c)  (F : FnP K "_law_at" "_law_at" s_law_at f fd) : FnOk P w K mg base CX0 1 f fd p_law_at (sp_law_at P w K c) := by
  refine F.ok sc_law_at (fun vs H Q E h => by obtain ⟨_, _, _, rfl, _⟩ := h; rfl) (fun cdv A outer s H vs Q E hr h => ?_)
  refine ⟨_, PSs.nox (pss_cons (ps_if (pt_chain op_le op_lt pe_int (pv 1) (pe_callB call_len_seq (by rfl) T.b_len PySem.boot_len (pa_cons (pv 0) pa_nil)))
     (pss_one (ps_ret (pe_ix ix_list (pv 0) (pv 1) (fun _ _ => rfl))))
     pss_nil)
     (pss_one (ps_ret pe_int))), ?_⟩
  obtain ⟨r, i, row, rfl, hr', kq⟩ := h
  refine ⟨_, rfl, _, _, rfl, rfl, _, rfl, iteP (decide_eq_true (by omega)) ⟨_, rfl, r, _, rfl, .inl (SqL.of hr'), _, _, rfl, rfl, _, rfl, ?_⟩⟩
  rw [nvs_len]
  by_cases c : i < row.length
  · exact iteP (decide_eq_true (by omega)) ⟨_, rfl, _, rfl, r, _, _, _, rfl, rfl, SqL.of hr', at_nat rfl (nvs_get (getD_some c)), kq⟩
  · refine iteN (decide_eq_false (by omega)) ?_
    rw [List.getD_eq_getElem?_getD, List.getElem?_eq_none (by omega)] at kq
    exact kq

theorem ok_law_state {f : Addr} {fd : FuncData} (T : Tx K mg c)  (F : FnP K "_law_state" "_law_state" s_law_state f fd) : FnOk P w K mg base CX0 1 f fd p_law_state (sp_law_state P w K c) := by
  refine F.ok sc_law_state (fun vs H Q E h => by obtain ⟨_, _, _, _, rfl, _⟩ := h; rfl) (fun cdv A outer s H vs Q E hr h => ?_)
  refine ⟨_, PSs.nox (pss_cons (ps_set (i := 2) sc_law_state.nd rfl (Or.inl rfl) pe_int)
     (pss_cons (ps_for PassesOwn.never rfl (pi_list (pv 1)) (pg_name (i := 3) sc_law_state.nd rfl (Or.inl rfl))
     (pss_one (ps_set (i := 2) sc_law_state.nd rfl (Or.inl rfl) (pe_ix ix_tup (pe_ix ix_tup (pe_ix ix_tup (pv 0) pe_int (fun _ _ => rfl)) (pv 2) (fun _ _ => rfl)) (pv 3) (fun _ _ => rfl)))))
     (pss_one (ps_ret (pv 2))))), ?_⟩
  obtain ⟨mv, wv, m, wd, rfl, hM, wf, ⟨wl, rfl, hwl⟩, hok, kq⟩ := h
  obtain ⟨a, b, d, rs, rfl, ha, hb, hrs, hd⟩ := id hM
  refine ⟨_, rfl, wl, rfl, ⟨_, SqL.of hwl⟩, for_list (xs := nvs wd) (fun i σ H2 => ∃ (s3 : Option V), σ = [some (V.ref a), some (V.ref wl), some (nv (m.run 0 (wd.take i))), s3] ∧ H2 = H) ⟨_, rfl, rfl⟩ (fun i σ H2 _ ⟨_, _, e⟩ => by rw [e]; exact SqL.of hwl) ?_ ?_⟩
  · rintro i x σ H2 hx ⟨s3, rfl, rfl⟩
    obtain ⟨q, hq, rfl⟩ := nvs_of hx
    have hqk := hok q (List.mem_of_getElem? hq)
    have hlt := run_lt wf wf.n0 hok i
    obtain ⟨g1, g2⟩ := step_get wf hlt hqk
    obtain ⟨x2, hx2, a2, rfl, ha2⟩ := hrs.get (row_get wf hlt)
    refine ⟨_, rfl, a, _, _, _, rfl, rfl, SqT.of ha, at_nat (j := 2) rfl rfl, _, rfl, b, _, _, _, rfl, rfl, SqT.of hb, at_nat rfl hx2, _, rfl, a2, _, _, _, rfl, rfl, SqT.of ha2, at_nat rfl (nvs_get g1), some (nv q), ?_, rfl⟩
    rw [run_take m 0 hq]
    rfl
  · rintro σ H2 ⟨s3, rfl, rfl⟩
    refine ⟨_, rfl, ?_⟩
    rw [nvs_len, List.take_length]
    exact kq

theorem ok_law_output {f : Addr} {fd : FuncData} (T : Tx K mg c) (D_law_state : Dfn P w K mg base CX0 1 "_law_state" p_law_state (sp_law_state P w K c)) (F : FnP K "_law_output" "_law_output" s_law_output f fd) : FnOk P w K mg base CX0 2 f fd p_law_output (sp_law_output P w K c) := by
  refine F.ok sc_law_output (fun vs H Q E h => by obtain ⟨_, _, _, _, rfl, _⟩ := h; rfl) (fun cdv A outer s H vs Q E hr h => ?_)
  refine ⟨_, PSs.nox (pss_one (ps_ret (pe_ix ix_tup (pe_ix ix_tup (pv 0) pe_int (fun _ _ => rfl)) (pe_c D_law_state (hr.mono (by decide)) (pa_cons (pv 0) (pa_cons (pv 1) pa_nil))) (fun _ _ => rfl)))), ?_⟩
  obtain ⟨mv, wv, m, wd, rfl, hM, wf, hwl, hok, kq⟩ := h
  obtain ⟨a, b, d, rs, rfl, ha, hb, hrs, hd⟩ := id hM
  refine ⟨_, rfl, a, _, _, _, rfl, rfl, SqT.of ha, at_nat (j := 3) rfl rfl, _, rfl, _, rfl, .ref a, wv, m, wd, rfl, hM, wf, hwl, hok, d, _, _, _, rfl, rfl, sqT_rd hd, at_nat rfl (nvs_get (at_get (wf.run wf.n0 hok))), kq⟩

theorem ok_law_digits {f : Addr} {fd : FuncData} (T : Tx K mg c)  (F : FnP K "_law_digits" "_law_digits" s_law_digits f fd) : FnOk P w K mg base CX0 1 f fd p_law_digits (sp_law_digits P w K c) := by
  refine F.ok sc_law_digits (fun vs H Q E h => by obtain ⟨_, rfl, _⟩ := h; rfl) (fun cdv A outer s H vs Q E hr h => ?_)
  refine ⟨_, PSs.nox (pss_cons (ps_set (i := 1) sc_law_digits.nd rfl (Or.inl rfl) pe_int)
     (pss_cons (ps_while PassesOwn.never (pt_cmpR op_gt (pv 0) pe_int (by rfl))
     (pss_cons (ps_set (i := 0) sc_law_digits.nd rfl (Or.inl rfl) (pe_op op_fdivN (pv 0) pe_int))
     (pss_one (ps_set (i := 1) sc_law_digits.nd rfl (Or.inl rfl) (pe_op op_add (pv 1) pe_int)))))
     (pss_one (ps_ret (pv 1))))), ?_⟩
  obtain ⟨n, rfl, kq⟩ := h
  refine ⟨fun mm σ H2 => ∃ (q d : Nat), mm = q ∧ σ = [some (nv q), some (nv d)] ∧ H2 = H ∧ d + Mai.digs q = Mai.digs n, ⟨n, n, 0, rfl, rfl, rfl, by omega⟩, ?_⟩
  rintro mm σ H2 ⟨q, d, hmm, rfl, rfl, hd⟩
  refine ⟨_, rfl, _, _, rfl, rfl, _, rfl, ?_⟩
  by_cases c : (q : Int) > 0
  · refine iteP (decide_eq_true c) ⟨fun σ' H' => σ' = [some (nv (q / 2)), some (nv (d + 1))] ∧ H' = H2, fun σ' H' ⟨h1, h2⟩ => ⟨q / 2, by omega, q / 2, d + 1, rfl, h1, h2, ?_⟩, ?_⟩
    · rw [Mai.digs_pos (by omega)] at hd
      omega
    · refine ⟨_, rfl, _, _, rfl, rfl, ⟨by decide, by decide⟩, _, rfl, _, _, rfl, rfl, ?_, rfl⟩
      have : (q : Int).fdiv 2 = ((q / 2 : Nat) : Int) := fdiv_nat q 2
      show [some (V.int ((q : Int).fdiv 2)), some (V.int ((d : Int) + 1))] = _
      rw [this]
      rfl
  · refine iteN (decide_eq_false c) ⟨_, rfl, ?_⟩
    have : q = 0 := by omega
    subst this
    rw [Mai.digs_zero] at hd
    have : d = Mai.digs n := by omega
    rw [this]
    exact kq

theorem ok_law_bound {f : Addr} {fd : FuncData} (T : Tx K mg c) (D_law_digits : Dfn P w K mg base CX0 1 "_law_digits" p_law_digits (sp_law_digits P w K c)) (F : FnP K "_law_bound" "_law_bound" s_law_bound f fd) : FnOk P w K mg base CX0 2 f fd p_law_bound (sp_law_bound P w K c) := by
  refine F.ok sc_law_bound (fun vs H Q E h => by obtain ⟨_, _, _, rfl, _⟩ := h; rfl) (fun cdv A outer s H vs Q E hr h => ?_)
  refine ⟨_, PSs.nox (pss_one (ps_ret (pe_op op_add (pe_op op_mul (pe_op op_mul (pv 0) (pv 0)) (pe_op op_add (pv 1) pe_int)) (pe_op op_mul (pv 0) (pe_op op_add (pe_c D_law_digits (hr.mono (by decide)) (pa_cons (pv 2) pa_nil)) pe_int))))), ?_⟩
  obtain ⟨n, k, l, rfl, hn, hk, kq⟩ := h
  have hnn : n * n ≤ 1000 * 1000 := Nat.mul_le_mul hn hn
  refine ⟨_, rfl, _, rfl, _, _, rfl, rfl, .inl ⟨by omega, by omega⟩, _, rfl, _, _, rfl, rfl, _, _, rfl, rfl, .inr ⟨by omega, by omega⟩, _, rfl, _, rfl, l, rfl, _, _, rfl, rfl, _, _, rfl, rfl, .inl ⟨by omega, by omega⟩, _, _, rfl, rfl, ?_⟩
  have e : (n : Int) * (n : Int) * ((k : Int) + 1) + (n : Int) * ((Mai.digs l : Int) + 2) = ((n * n * (k + 1) + n * (Mai.digs l + 2) : Nat) : Int) := by
    simp only [Int.natCast_add, Int.natCast_mul, Int.natCast_one]
    rfl
  show Q (V.int ((n : Int) * (n : Int) * ((k : Int) + 1) + (n : Int) * ((Mai.digs l : Int) + 2))) H
  rw [e]
  exact kq
end
end MW
/-! ## P12 -/
namespace MW
open PySem PySem.Spec PyProof.Rows L2 Evl
section
variable {P : Program} {w : World} {K : PySem.W.Frag} {mg : Str → Option Value} {base : Heap} {c : Cs}
theorem ok_law_machine {f : Addr} {fd : FuncData} (T : Tx K mg c) (D_law_at : Dfn P w K mg base CX0 1 "_law_at" p_law_at (sp_law_at P w K c)) (F : FnP K "_law_machine" "_law_machine" s_law_machine f fd) : FnOk P w K mg base CX0 2 f fd p_law_machine (sp_law_machine P w K c) := by
  refine F.ok sc_law_machine (fun vs H Q E h => by obtain ⟨_, _, _, _, _, _, rfl, _⟩ := h; rfl) (fun cdv A outer s H vs Q E hr h => ?_)
  refine ⟨_, PSs.nox (pss_cons (ps_set (i := 5) sc_law_machine.nd rfl (Or.inl rfl) (pe_lst pa_nil))
     (pss_cons (ps_set (i := 6) sc_law_machine.nd rfl (Or.inl rfl) (pe_lst pa_nil))
     (pss_cons (ps_set (i := 7) sc_law_machine.nd rfl (Or.inl rfl) (pe_op op_modN (pe_callTy call_int1 (by rfl) T.b_int (by decide +kernel) (pa_cons (pe_c D_law_at (hr.mono (by decide)) (pa_cons (pv 0) (pa_cons (pv 1) pa_nil))) pa_nil)) pe_int))
     (pss_cons (ps_for PassesOwn.never rfl (pi_range1 (by rfl) T.b_range (pa_cons (pv 4) pa_nil)) (pg_name (i := 8) sc_law_machine.nd rfl (Or.inl rfl))
     (pss_cons (ps_set (i := 9) sc_law_machine.nd rfl (Or.inl rfl) (pe_lst pa_nil))
     (pss_cons (ps_for PassesOwn.never rfl (pi_range1 (by rfl) T.b_range (pa_cons (pv 2) pa_nil)) (pg_name (i := 10) sc_law_machine.nd rfl (Or.inl rfl))
     (pss_cons (ps_set (i := 11) sc_law_machine.nd rfl (Or.inl rfl) (pe_callTy call_int1 (by rfl) T.b_int (by decide +kernel) (pa_cons (pe_c D_law_at (hr.mono (by decide)) (pa_cons (pv 0) (pa_cons (pe_op op_add (pe_op op_add (pe_op op_add (pv 1) pe_int) (pe_op op_mul pe_int (pv 8))) (pv 10)) pa_nil))) pa_nil)))
     (pss_cons (ps_set (i := 12) sc_law_machine.nd rfl (Or.inl rfl) (pe_op op_modN (pv 11) (pv 4)))
     (pss_cut (ps_if (pt_cmpR op_eq (pv 7) pe_int (by rfl))
     (pss_one (ps_set (i := 12) sc_law_machine.nd rfl (Or.inl rfl) (pe_ix ix_list (pe_lst (pa_cons pe_int (pa_cons (pe_callB (call_min2 rfl) (by rfl) T.b_min (by decide +kernel) (pa_cons (pe_op op_add (pv 8) pe_int) (pa_cons (pe_op op_sub (pv 4) pe_int) pa_nil))) pa_nil))) (pe_callTy call_int1 (by rfl) T.b_int (by decide +kernel) (pa_cons (pe_cmpR op_eq (pv 10) (pe_op op_modN (pv 11) (pv 2)) (by rfl)) pa_nil)) (fun _ _ => rfl))))
     pss_nil)
     (pss_cut (ps_if (pt_cmpR op_eq (pv 7) pe_int (by rfl))
     (pss_one (ps_set (i := 12) sc_law_machine.nd rfl (Or.inl rfl) (pe_op op_modN (pe_op op_add (pe_op op_add (pv 8) (pv 10)) (pe_op op_modN (pv 11) pe_int)) (pv 4))))
     pss_nil)
     (pss_one (ps_expr (pe_bm PySem.F.plainAttrs_list PySem.F.slot_list_append PySem.F.type_list_append mt_append (pv 9) (pa_cons (pv 12) pa_nil)))))))))
     (pss_cons (ps_expr (pe_bm PySem.F.plainAttrs_list PySem.F.slot_list_append PySem.F.type_list_append mt_append (pv 5) (pa_cons (pe_callTy call_tuple_of (by rfl) T.b_tuple (by decide +kernel) (pa_cons (pv 9) pa_nil)) pa_nil)))
     (pss_cons (ps_expr (pe_bm PySem.F.plainAttrs_list PySem.F.slot_list_append PySem.F.type_list_append mt_append (pv 6) (pa_cons (pe_op op_modN (pe_callTy call_int1 (by rfl) T.b_int (by decide +kernel) (pa_cons (pe_c D_law_at (hr.mono (by decide)) (pa_cons (pv 0) (pa_cons (pe_op op_add (pe_op op_add (pv 1) pe_int) (pe_op op_mul pe_int (pv 8))) pa_nil))) pa_nil)) (pv 3)) pa_nil)))
     (pss_one (ps_if (pt_cmpR op_eq (pv 7) pe_int (by rfl))
     (pss_one (ps_asg (pe_op op_mul (pe_callTy call_int1 (by rfl) T.b_int (by decide +kernel) (pa_cons (pe_cmpR op_eq (pv 8) (pe_op op_sub (pv 4) pe_int) (by rfl)) pa_nil)) (pe_op op_sub (pv 3) pe_int)) (pg_sub (pv 6) (pe_un un_neg pe_int) set_list)))
     pss_nil)))))))
     (pss_one (ps_ret (pe_tup (pa_cons (pv 2) (pa_cons (pv 3) (pa_cons (pe_callTy call_tuple_of (by rfl) T.b_tuple (by decide +kernel) (pa_cons (pv 5) pa_nil)) (pa_cons (pe_callTy call_tuple_ofF (by rfl) T.b_tuple (by decide +kernel) (pa_cons (pv 6) pa_nil)) pa_nil))))))))))), ?_⟩
  obtain ⟨r, i0, k, o, n, row, rfl, hr', k1, k4, o1, o6, n1, n30, kq⟩ := h
  refine ⟨by decide, fun m0 hm0 => ?_⟩
  have e1 : Ex H (upd H m0 (.lst [])) := Ex.new hm0
  have hm1 : upd H m0 (.lst []) m0 = some (.lst []) := upd_same
  generalize upd H m0 (.lst []) = H1 at *
  refine ⟨by decide, fun o0 ho0 => ?_⟩
  have e2 : Ex H1 (upd H1 o0 (.lst [])) := Ex.new ho0
  have hm2 := e2 m0 _ hm1
  have ho2 : upd H1 o0 (.lst []) o0 = some (.lst []) := upd_same
  have nmo : m0 ≠ o0 := ne_of_none hm1 ho0
  have ho0H : H o0 = none := fresh_back e1 ho0
  have e02 := e1.trans e2
  generalize upd H1 o0 (.lst []) = H2 at *
  refine ⟨_, rfl, _, rfl, r, i0, row, rfl, e02 r _ hr', .inl ⟨_, rfl, _, _, rfl, rfl, (show (4 : Int) ≠ 0 by decide), ?_⟩⟩
  have ekd : ((row.getD i0 0 : Nat) : Int).fmod 4 = ((row.getD i0 0 % 4 : Nat) : Int) := fmod_nat _ 4 (by decide)
  have ekd' : V.int (((row.getD i0 0 : Nat) : Int).fmod 4) = nv (row.getD i0 0 % 4) := congrArg V.int ekd
  generalize row.getD i0 0 % 4 = kd at *
  show gName 7 (V.int (((row.getD i0 0 : Nat) : Int).fmod 4)) _ _ _
  rw [ekd']
  refine ⟨_, rfl, _, rfl, by omega, by omega, for_range (fun i σ H3 => ∃ (s8 s9 s10 s11 s12 : Option V) (rows : List (List Nat)) (os : List Nat), σ = [some (V.ref r), some (nv i0), some (nv k), some (nv o), some (nv n), some (V.ref m0), some (V.ref o0), some (nv kd), s8, s9, s10, s11, s12] ∧ Ex H H3 ∧ WsAt H3 m0 rows ∧ rows.length = i ∧ (∀ q ∈ rows, q.length = k ∧ ∀ t ∈ q, t < n) ∧ H3 o0 = some (.lst (nvs os)) ∧ os.length = i ∧ ∀ q ∈ os, q < o)
    ⟨_, _, _, _, _, [], [], rfl, e02, ⟨[], hm2, Als.nil⟩, rfl, by intro q hq; simp at hq, ho2, rfl, by intro q hq; simp at hq⟩ ?_ ?_⟩
  · rintro i σ H3 hi ⟨s8, s9, s10, s11, s12, rows, os, rfl, e3, hm3, hrl, hrk, ho3, hol, hoo⟩
    have hin : i < n := by omega
    have e0i : (0 : Int) + (i : Int) = (i : Int) := Int.zero_add _
    rw [e0i]
    refine ⟨by decide, fun t0 ht0 => ?_⟩
    have e4 : Ex H3 (upd H3 t0 (.lst [])) := Ex.new ht0
    have ht4 : upd H3 t0 (.lst []) t0 = some (.lst []) := upd_same
    generalize upd H3 t0 (.lst []) = H4 at *
    refine ⟨_, rfl, _, rfl, by omega, by omega, for_range (fun j σ H5 => ∃ (s10 s11 s12 : Option V) (ts : List Nat), σ = [some (V.ref r), some (nv i0), some (nv k), some (nv o), some (nv n), some (V.ref m0), some (V.ref o0), some (nv kd), some (nv i), some (V.ref t0), s10, s11, s12] ∧ Ex H3 H5 ∧ H5 t0 = some (.lst (nvs ts)) ∧ ts.length = j ∧ ∀ t ∈ ts, t < n) ⟨_, _, _, [], rfl, e4, ht4, rfl, by intro q hq; simp at hq⟩ ?_ ?_⟩
    · rintro j σ H5 hj ⟨s10, s11, s12, ts, rfl, e5, ht5, htl, htn⟩
      have hjk : j < k := by omega
      have e0j : (0 : Int) + (j : Int) = (j : Int) := Int.zero_add _
      rw [e0j]
      have hr5 := (e3.trans e5) r _ hr'
      refine ⟨_, rfl, _, rfl, _, _, rfl, rfl, _, rfl, _, _, rfl, rfl, .inr ⟨by omega, by omega⟩, _, _, rfl, rfl, _, rfl, _, _, rfl, rfl, r, i0 + 1 + 5 * i + j, row, ?_, hr5, .inl ⟨_, rfl, ?_⟩⟩
      · show [V.ref r, V.int ((i0 : Int) + 1 + 5 * (i : Int) + (j : Int))] = _
        have e : (i0 : Int) + 1 + 5 * (i : Int) + (j : Int) = ((i0 + 1 + 5 * i + j : Nat) : Int) := by omega
        rw [e]
        rfl
      generalize row.getD (i0 + 1 + 5 * i + j) 0 = dg
      refine ⟨_, rfl, _, rfl, _, _, rfl, rfl, by omega, ?_⟩
      have em : ((dg : Int)).fmod (n : Int) = ((dg % n : Nat) : Int) := fmod_nat dg n (by omega)
      have hlt1 : dg % n < n := Nat.mod_lt _ (by omega)
      refine ⟨fun σ' H6 => ∃ tg, tg < n ∧ σ' = [some (V.ref r), some (nv i0), some (nv k), some (nv o), some (nv n), some (V.ref m0), some (V.ref o0), some (nv kd), some (nv i), some (V.ref t0), some (nv j), some (nv dg), some (nv tg)] ∧ Ex H5 H6, ?_, ?_⟩
      · refine ⟨_, rfl, rfl, _, rfl, ite2 (fun _ => ?_) fun _ => ⟨dg % n, hlt1, ?_, Ex.refl _⟩⟩
        · refine ⟨_, rfl, _, _, rfl, rfl, _, rfl, _, _, rfl, rfl, _, _, rfl, sz2, fun l hl => ⟨_, rfl, _, rfl, _, rfl, _, _, rfl, rfl, by omega, rfl, .inr ⟨_, rfl, ?_⟩⟩⟩
          have hmin : (if (n : Int) - 1 < (i : Int) + 1 then (n : Int) - 1 else (i : Int) + 1) = ((min (i + 1) (n - 1) : Nat) : Int) := by split <;> omega
          have ex : Ex H5 (upd H5 l (.lst [.int 0, .int (if (n : Int) - 1 < (i : Int) + 1 then (n : Int) - 1 else (i : Int) + 1)])) := Ex.new hl
          cases (decide (V.int (j : Int) = V.int ((dg : Int).fmod (k : Int)))) with
          | true => exact ⟨l, _, _, _, rfl, rfl, SqL.of upd_same, at_nat (j := 1) rfl rfl, min (i + 1) (n - 1), by omega, by rw [hmin]; rfl, ex⟩
          | false => exact ⟨l, _, _, _, rfl, rfl, SqL.of upd_same, at_nat (j := 0) rfl rfl, 0, by omega, rfl, ex⟩
        · show [some (V.ref r), some (nv i0), some (nv k), some (nv o), some (nv n), some (V.ref m0), some (V.ref o0), some (nv kd), some (nv i), some (V.ref t0), some (nv j), some (nv dg), some (V.int ((dg : Int).fmod (n : Int)))] = _
          rw [em]
          rfl
      · rintro σ' H6 ⟨tg, htg, rfl, e6⟩
        refine ⟨fun σ' H7 => ∃ tg, tg < n ∧ σ' = [some (V.ref r), some (nv i0), some (nv k), some (nv o), some (nv n), some (V.ref m0), some (V.ref o0), some (nv kd), some (nv i), some (V.ref t0), some (nv j), some (nv dg), some (nv tg)] ∧ Ex H5 H7, ?_, ?_⟩
        · refine ⟨_, rfl, rfl, _, rfl, ite2 (fun _ => ?_) fun _ => ⟨tg, htg, rfl, e6⟩⟩
          refine ⟨_, rfl, _, rfl, _, _, rfl, rfl, _, rfl, _, _, rfl, rfl, (show (2 : Int) ≠ 0 by decide), _, _, rfl, rfl, _, rfl, _, _, rfl, rfl, by omega, (i + j + dg % 2) % n, Nat.mod_lt _ (by omega), ?_, e6⟩
          have e2' : (dg : Int).fmod 2 = ((dg % 2 : Nat) : Int) := fmod_nat dg 2 (by decide)
          show [some (V.ref r), some (nv i0), some (nv k), some (nv o), some (nv n), some (V.ref m0), some (V.ref o0), some (nv kd), some (nv i), some (V.ref t0), some (nv j), some (nv dg), some (V.int (((i : Int) + (j : Int) + (dg : Int).fmod 2).fmod (n : Int)))] = _
          have e3' : (i : Int) + (j : Int) + (dg : Int).fmod 2 = ((i + j + dg % 2 : Nat) : Int) := by rw [e2']; omega
          rw [e3', fmod_nat _ n (by omega)]
          rfl
        · rintro σ' H7 ⟨tg2, htg2, rfl, e7⟩
          have ht7 := e7 t0 _ ht5
          refine ⟨_, rfl, .inl ⟨rfl, _, SqL.of ht7⟩, _, rfl, t0, _, _, rfl, rfl, ht7, by rw [nvs_len]; exact szl (by omega), _, _, _, ts ++ [tg2], rfl, Ex.mut (e5.trans e7) ht0, by rw [upd_same, nvs_app]; rfl, by rw [List.length_append, htl]; rfl, fun q hq => ?_⟩
          rcases List.mem_append.mp hq with hq | hq
          · exact htn q hq
          · have : q = tg2 := by simpa using hq
            rw [this]
            exact htg2
    · rintro σ H5 ⟨s10, s11, s12, ts, rfl, e5, ht5, htl, htn⟩
      have htk : ts.length = k := by omega
      have hm5 := hm3.ex e5
      obtain ⟨um, hum, _⟩ := id hm5
      refine ⟨_, rfl, .inl ⟨rfl, _, SqL.of hum⟩, _, rfl, t0, _, rfl, .inl ⟨SqL.of ht5, fun l hl => ?_⟩⟩
      have e6 : Ex H5 (upd H5 l (.tup (nvs ts))) := Ex.new hl
      obtain ⟨us, hus, hul, hpush⟩ := ws_push (hm5.ex e6) (v := .ref l) (x := ts) ⟨l, rfl, upd_same⟩
      refine ⟨m0, _, _, rfl, rfl, hus, by rw [hul]; exact szl (by omega), ?_⟩
      have ho6 := (e5.trans e6) o0 _ ho3
      have e7 := Ex.mut (o := .lst (us ++ [.ref l])) ((e3.trans e5).trans e6) hm0
      have ho7 : upd (upd H5 l (.tup (nvs ts))) m0 (.lst (us ++ [.ref l])) o0 = some (.lst (nvs os)) := by rw [upd_ne nmo.symm]; exact ho6
      generalize upd (upd H5 l (.tup (nvs ts))) m0 (.lst (us ++ [.ref l])) = H7 at *
      refine ⟨_, rfl, .inl ⟨rfl, _, SqL.of ho7⟩, _, rfl, _, rfl, _, _, rfl, rfl, _, rfl, _, _, rfl, rfl, .inr ⟨by omega, by omega⟩, _, _, rfl, rfl, r, i0 + 5 + 5 * i, row, ?_, e7 r _ hr', .inl ⟨_, rfl, ?_⟩⟩
      · show [V.ref r, V.int ((i0 : Int) + 5 + 5 * (i : Int))] = _
        have e : (i0 : Int) + 5 + 5 * (i : Int) = ((i0 + 5 + 5 * i : Nat) : Int) := by omega
        rw [e]
        rfl
      generalize row.getD (i0 + 5 + 5 * i) 0 = dg
      have em : ((dg : Int)).fmod (o : Int) = ((dg % o : Nat) : Int) := fmod_nat dg o (by omega)
      refine ⟨_, rfl, _, _, rfl, rfl, by omega, o0, _, _, rfl, rfl, ho7, by rw [nvs_len]; exact szl (by omega), ?_⟩
      have e8 := Ex.mut (o := .lst (nvs os ++ [V.int ((dg : Int).fmod (o : Int))])) e7 ho0H
      have ho8 : upd H7 o0 (.lst (nvs os ++ [V.int ((dg : Int).fmod (o : Int))])) o0 = some (.lst (nvs (os ++ [dg % o]))) := by rw [upd_same, em, nvs_app]; rfl
      have hm8 : WsAt (upd H7 o0 (.lst (nvs os ++ [V.int ((dg : Int).fmod (o : Int))]))) m0 (rows ++ [ts]) := hpush.keep (tk_upd ho7 fun z => z) (upd_ne nmo)
      have hrk' : ∀ q ∈ rows ++ [ts], q.length = k ∧ ∀ t ∈ q, t < n := fun q hq => by
        rcases List.mem_append.mp hq with hq | hq
        · exact hrk q hq
        · have : q = ts := by simpa using hq
          rw [this]
          exact ⟨htk, htn⟩
      generalize upd H7 o0 (.lst (nvs os ++ [V.int ((dg : Int).fmod (o : Int))])) = H8 at *
      have fin : ∀ x, x < o → ∀ q ∈ os ++ [x], q < o := fun x hx q hq => by
        rcases List.mem_append.mp hq with hq | hq
        · exact hoo q hq
        · have : q = x := by simpa using hq
          rw [this]
          exact hx
      refine ⟨_, rfl, rfl, _, rfl, ite2 (fun _ => ?_) fun _ => ⟨_, _, _, _, _, rows ++ [ts], os ++ [dg % o], rfl, e8, hm8, by rw [List.length_append, hrl]; rfl, hrk', ho8, by rw [List.length_append, hol]; rfl, fin _ (Nat.mod_lt _ (by omega))⟩⟩
      refine ⟨_, rfl, _, rfl, _, _, rfl, rfl, rfl, .inr ⟨_, rfl, _, rfl, _, _, rfl, rfl, _, _, rfl, rfl, ?_, ?_⟩⟩
      · exact .inl ⟨by split <;> decide, by split <;> decide⟩
      refine ⟨_, rfl, _, rfl, o0, _, -1, os.length, rfl, rfl, ho8, ?_, ?_⟩
      · rw [nvs_len, List.length_append]
        show (if (0 : Int) ≤ -1 then _ else _) = _
        rw [if_neg (by decide), if_pos (by show -((os.length + 1 : Nat) : Int) ≤ -1; omega)]
        congr 1
        show ((-1 : Int) + ((os.length + 1 : Nat) : Int)).toNat = _
        omega
      · have ev : V.int ((if (decide (V.int (i : Int) = V.int ((n : Int) - 1))) = true then (1 : Int) else 0) * ((o : Int) - 1)) = nv (if (decide (V.int (i : Int) = V.int ((n : Int) - 1))) = true then o - 1 else 0) := by
          refine congrArg V.int ?_
          split <;> omega
        refine ⟨_, _, _, _, _, rows ++ [ts], os ++ [if (decide (V.int (i : Int) = V.int ((n : Int) - 1))) = true then o - 1 else 0], rfl, Ex.mut e8 ho0H, hm8.keep (tk_upd ho8 fun z => z) (upd_ne nmo), by rw [List.length_append, hrl]; rfl, hrk', ?_, by rw [List.length_append, hol]; rfl, fin _ (by split <;> omega)⟩
        rw [upd_same, nvs_app, nvs_app]
        refine congrArg (fun z => some (HO.lst z)) ?_
        rw [← nvs_len os, List.set_append_right _ _ (Nat.le_refl _), Nat.sub_self]
        show nvs os ++ [V.int _] = nvs os ++ [nv _]
        rw [← ev]
        rfl
  · rintro σ H3 ⟨s8, s9, s10, s11, s12, rows, os, rfl, e3, ⟨um, hum, alm⟩, hrl, hrk, ho3, hol, hoo⟩
    have en : (n : Int).toNat = n := by omega
    rw [en] at hrl hol
    refine ⟨_, rfl, _, rfl, _, rfl, m0, _, rfl, .inl ⟨SqL.of hum, fun l hl => ?_⟩⟩
    have e4 : Ex H3 (upd H3 l (.tup um)) := Ex.new hl
    refine ⟨_, rfl, o0, _, rfl, SqL.of (e4 o0 _ ho3), fun l2 ob hl2 hob => ⟨sz4, fun p hp => ?_⟩⟩
    have e5 := (Ex.new (o := HO.frz ob (.tup (nvs os))) hl2).trans (Ex.new (o := HO.tup [nv k, nv o, .ref l, .ref l2]) hp)
    refine kq _ _ ⟨k, o, rows, os⟩ ((e3.trans e4).trans e5) ⟨p, l, l2, um, rfl, upd_same, e5 l _ upd_same, alm.mono fun _ _ _ q => (q.keep (tk_ex e4)).keep (tk_ex e5), ob, by rw [upd_ne (ne_of_none upd_same hp), upd_same], hob⟩ ⟨k1, k4, o1, o6, by show 1 ≤ os.length; omega, by show os.length ≤ 30; omega, by show rows.length = os.length; omega, fun q hq => ?_, hoo⟩ rfl rfl hol
    have := hrk q hq
    rw [← hol] at this
    exact this

def pk (k : SK) : PyData := .tuple [pn k.1, pw k.2]
theorem pk_eqv (a b : SK) : PyData.eqv (pk a) (pk b) = decide (a = b) := by
  unfold pk
  rw [PyData.eqv, PyData.eqvAll, PyData.eqvAll, PyData.eqvAll, pn_eqv, pw_eqv]
  obtain ⟨a1, a2⟩ := a
  obtain ⟨b1, b2⟩ := b
  by_cases e1 : a1 = b1 <;> by_cases e2 : a2 = b2 <;> simp [e1, e2]
theorem pk_lay (k : SK) : (pk k).canLay0 = true := by
  unfold pk
  rw [PyData.canLay0, PyData.canLayAll0, PyData.canLayAll0, PyData.canLayAll0, pn_lay, pw_lay]
  rfl
theorem pk_depth (k : SK) : (pk k).depth ≤ 10 := by
  unfold pk
  rw [PyData.depth, PyData.depthAll, PyData.depthAll, PyData.depthAll]
  have h1 := pn_depth k.1
  have h2 := pw_depth k.2
  omega
def MK (H : Hp) (v : V) (k : SK) : Prop := ∃ a b, v = .ref a ∧ H a = some (.tup [nv k.1, .ref b]) ∧ H b = some (.tup (nvs k.2))
theorem MK.keep {H H' : Hp} {v : V} {k : SK} (h : MK H v k) (t : Tk H H') : MK H' v k := let ⟨a, b, e, h1, h2⟩ := h; ⟨a, b, e, t.at h1, t.at h2⟩
theorem dp_mk {K : PySem.W.Frag} {H : Hp} {v : V} {k : SK} (h : MK H v k) : Dp K H v (pk k) := by
  obtain ⟨a, b, rfl, h1, h2⟩ := h
  exact .tup (SqT.of h1) (.cons (.int _) (.cons (dp_tw ⟨b, rfl, h2⟩) .nil))
theorem ok_law_classes {f : Addr} {fd : FuncData} (T : Tx K mg c)  (F : FnP K "_law_classes" "_law_classes" s_law_classes f fd) : FnOk P w K mg base CX0 1 f fd p_law_classes (sp_law_classes P w K c) := by
  refine F.ok sc_law_classes (fun vs H Q E h => by obtain ⟨_, _, rfl, _⟩ := h; rfl) (fun cdv A outer s H vs Q E hr h => ?_)
  refine ⟨_, PSs.nox (pss_cons (ps_set (i := 1) sc_law_classes.nd rfl (Or.inr rfl) (pe_callTy call_list_of (by rfl) T.b_list (by decide +kernel) (pa_cons (pe_ix ix_tup (pv 0) pe_int (fun _ _ => rfl)) pa_nil)))
     (pss_cons (ps_for PassesOwn.never rfl (pi_range1 (by rfl) T.b_range (pa_cons (pe_callB call_len_seq (by rfl) T.b_len PySem.boot_len (pa_cons (pv 1) pa_nil)) pa_nil)) (pg_name (i := 2) sc_law_classes.nd rfl (Or.inl rfl))
     (pss_cons (ps_set (i := 3) sc_law_classes.nd rfl (Or.inr rfl) (pe_lc (own := [("_law_s", 4)]) (te := (tTup (tCons (tOp (rIxL K) (tVar 1) (tVar 4)) (tCons (tCB (rTupOf K) (tCons (tLc (iTup K (tOp (rIxT K) (tOp (rIxT K) (tVar 0) (tC (.int 2))) (tVar 4))) (gName 6) tYes (tOp (rIxL K) (tVar 1) (tVar 6)) [6]) tNil)) tNil)))) (by rfl) sc_law_classes.nd (pi_range1 (by rfl) T.b_range (pa_cons (pe_callB call_len_seq (by rfl) T.b_len PySem.boot_len (pa_cons (pv 1) pa_nil)) pa_nil)) (blkOk_by (N := N_law_classes) (sc := (defScope s_law_classes)) (by decide +kernel)) (fun _ _ _ _ _ => (pg_name (i := 4) sc_law_classes.nd rfl (Or.inl rfl))) (fun _ _ _ _ _ => pts_nil) (fun _ _ _ _ _ => (pe_tup (pa_cons (pe_ix ix_list (pv 1) (pv 4) (fun _ _ => rfl)) (pa_cons (pe_callTy call_tuple_of (by rfl) T.b_tuple (by decide +kernel) (pa_cons (pe_lc (own := [("_law_t", 6)]) (te := (tOp (rIxL K) (tVar 1) (tVar 6))) (by rfl) sc_law_classes.nd (pi_tup (pe_ix ix_tup (pe_ix ix_tup (pv 0) pe_int (fun _ _ => rfl)) (pv 4) (fun _ _ => rfl))) (blkOk_by (N := N_law_classes) (sc := _) (by kernel_rfl)) (fun _ _ _ _ _ => (pg_name (i := 6) sc_law_classes.nd rfl (Or.inl rfl))) (fun _ _ _ _ _ => pts_nil) (fun _ _ _ _ _ => (pe_ix ix_list (pv 1) (pv 6) (fun _ _ => rfl)))) pa_nil)) pa_nil))))))
     (pss_one (ps_set (i := 1) sc_law_classes.nd rfl (Or.inr rfl) (pe_lc (own := [("_law_mark", 5)]) (te := (tBM K "list" (rIndexD K) (tVar 3) (tCons (tVar 5) tNil))) (by rfl) sc_law_classes.nd (pi_list (pv 3)) (blkOk_by (N := N_law_classes) (sc := (defScope s_law_classes)) (by decide +kernel)) (fun _ _ _ _ _ => (pg_name (i := 5) sc_law_classes.nd rfl (Or.inl rfl))) (fun _ _ _ _ _ => pts_nil) (fun _ _ _ _ _ => (pe_bm PySem.F.plainAttrs_list PySem.F.slot_list_index PySem.F.type_list_index (mt_indexD (hu65 hr)) (pv 3) (pa_cons (pv 5) pa_nil))))))))
     (pss_one (ps_ret (pv 1))))), ?_⟩
  obtain ⟨mv, m, rfl, hm, wf, k⟩ := h
  obtain ⟨a, b, d, rs, rfl, ha, hb, hrs, hd⟩ := id hm
  have k4 := wf.k4
  have n30 : m.n ≤ 30 := wf.n30
  refine ⟨_, rfl, a, _, _, _, rfl, rfl, SqT.of ha, at_nat (j := 3) rfl rfl, d, _, rfl, .inr (sqT_rd hd), fun r0 hr0 => ?_⟩
  have e1 : Ex H (upd H r0 (.lst (nvs m.ou))) := Ex.new hr0
  refine ⟨_, rfl, r0, _, rfl, .inl (SqL.of upd_same), _, rfl, by rw [nvs_len]; omega, by rw [nvs_len]; have := wf.n30; omega, for_range (fun i σ H3 => ∃ (s2 s3 s4 s5 s6 : Option V) (r : Addr), σ = [some (V.ref a), some (V.ref r), s2, s3, s4, s5, s6] ∧ Ex H H3 ∧ H r = none ∧ H3 r = some (.lst (nvs (m.lawN i)))) ⟨_, _, _, _, _, r0, rfl, e1, hr0, upd_same⟩ ?_ ?_⟩
  · rintro i σ H3 hi ⟨s2, s3, s4, s5, s6, r, rfl, e3, hr0', hr3⟩
    have hgl : (m.lawN i).length = m.n := Mai.Mach.lawN_length m i
    have hsucc : m.lawN (i + 1) = Mai.canon (m.signs (m.lawN i)) := rfl
    rw [hsucc]
    generalize m.lawN i = g at *
    refine ⟨_, rfl, r, _, rfl, .inl (SqL.of hr3), _, rfl, by rw [nvs_len]; omega, by rw [nvs_len]; omega, fun D hD => lc_w hD (walk_range.mono (fun _ _ => True.intro) fun _ _ _ _ _ _ y => y) (fun _ => rfl) (fun j v H4 => MK H4 v (m.sign g j)) (fun _ _ _ _ _ h hD _ => h.keep (tk_upd hD fun z => z)) (fun _ _ _ _ h e => h.keep (tk_ex e)) ?_ (by rw [nvs_len]; omega) ?_⟩
    · rintro j x H4 H4' hj e4 ⟨accD, hDD⟩ ⟨rfl, rfl⟩ Q' kk
      have hjn : j < m.n := by rw [nvs_len] at hj; omega
      have e34 := e3.trans e4
      obtain ⟨x2, hx2, a2, rfl, ha2⟩ := hrs.get (row_get wf hjn)
      have hr4 := e4 r _ hr3
      refine ⟨_, rfl, _, rfl, r, _, _, _, rfl, rfl, SqL.of hr4, at_nat (j := j) (by omega) (nvs_get (getD_some (by omega))), _, rfl, a, _, _, _, rfl, rfl, SqT.of (e34 a _ ha), at_nat (j := 2) rfl rfl, _, rfl, b, _, _, _, rfl, rfl, SqT.of (e34 b _ hb), at_nat (j := j) (by omega) hx2, a2, rfl, ⟨_, SqT.of (e34 a2 _ ha2)⟩, fun D2 hD2 => lc_w hD2 (walk_tup.mono (fun H5 e => SqT.of (e a2 _ (e34 a2 _ ha2))) fun _ _ _ _ _ _ y => y) (fun _ => rfl) (fun q v _ => ∀ t, (m.row j)[q]? = some t → v = nv (g.getD t 0)) (fun _ _ _ _ _ h _ _ => h) (fun _ _ _ _ h _ => h) ?_ (by rw [nvs_len, (wf.row hjn).1]; omega) ?_⟩
      · rintro q z H5 H5' hq e5 _ ⟨rfl, hz⟩ Q2 kk2
        obtain ⟨t, ht, rfl⟩ := nvs_of hz
        have htn : t < m.n := (wf.row hjn).2 t (List.mem_of_getElem? ht)
        refine ⟨_, rfl, _, rfl, r, _, _, _, rfl, rfl, SqL.of (e5 r _ hr4), at_nat rfl (nvs_get (getD_some (by omega))), kk2 _ _ (Ex.refl _) (by intro z; cases z) fun t' ht' => ?_⟩
        rw [ht] at ht'
        cases ht'
        rfl
      · intro H5 acc e5 hacc hal hap
        have eacc : acc = nvs ((m.row j).map fun t => g.getD t 0) := by
          unfold nvs
          rw [List.map_map]
          exact vals_each (by rw [hal, nvs_len]) fun i v x h1 h2 => hap i v h1 x h2
        subst eacc
        refine ⟨D2, _, rfl, .inl ⟨SqL.of hacc, fun l hl => ⟨sz2, fun t ht => ?_⟩⟩⟩
        have e6 := (Ex.new (o := HO.tup (nvs ((m.row j).map fun t => g.getD t 0))) hl).trans (Ex.new (o := HO.tup [nv (g.getD j 0), .ref l]) ht)
        refine kk _ _ (e5.trans e6) (fun z => ?_) ⟨t, l, rfl, upd_same, ?_⟩
        · cases z
          have := (e5.trans e6) D _ hDD
          rw [upd_same] at this
          cases this
        · rw [upd_ne (ne_of_none upd_same ht), upd_same]
          rfl
    intro H4 acc e4 hacc hal hap
    have alsm : Als (MK H4) acc (m.signs g) := by
      unfold Mai.Mach.signs
      exact Als.range (by rw [hal, nvs_len]; omega) fun j v hv => hap j v hv
    have e34 := e3.trans e4
    refine ⟨_, rfl, D, rfl, ⟨_, SqL.of hacc⟩, fun D2 hD2 => lc_w hD2 (walk_list.mono (fun H5 e => SqL.of (e D _ hacc)) fun _ _ _ _ _ _ y => y) (fun _ => rfl) (fun j v _ => ∀ x, (m.signs g)[j]? = some x → v = nv (Mai.idx (m.signs g) x)) (fun _ _ _ _ _ h _ _ => h) (fun _ _ _ _ h _ => h) ?_ (by rw [hal, nvs_len]; omega) ?_⟩
    · rintro j x H5 H5' hj e5 _ ⟨rfl, hx⟩ Q' kk
      obtain ⟨sg, hsg, hmk⟩ := alsm.of hx
      have hmem := List.mem_of_getElem? hsg
      have alsm5 := alsm.mono fun _ _ _ q => q.keep (tk_ex e5)
      refine ⟨_, rfl, .inl ⟨rfl, _, SqL.of (e5 D _ hacc)⟩, _, rfl, D, _, pk sg, (m.signs g).map pk, Mai.idx (m.signs g) sg, pk sg, rfl, rfl, .lst (SqL.of (e5 D _ hacc)) (dpAll_als (fun _ _ q => dp_mk q) alsm5), dp_mk (hmk.keep (tk_ex e5)), list_sh pk_lay pk_depth _, shaped_of (pk_lay _) (Nat.le_trans (pk_depth _) (by decide)), by rw [List.getElem?_map, Mai.idx_get hmem]; rfl, by rw [pk_eqv]; exact d_t rfl, fun q z' hq hz => ?_, kk _ _ (Ex.refl _) (by intro z; cases z) fun y hy => ?_⟩
      · rw [List.getElem?_map, Option.map_eq_some_iff] at hz
        obtain ⟨y, hy, rfl⟩ := hz
        rw [pk_eqv]
        refine d_f fun e => ?_
        subst e
        have h1 : Mai.idx (m.signs g) y ≤ q := Mai.idxOf_le hy
        omega
      · rw [hsg] at hy
        cases hy
        rfl
    · intro H5 acc2 e5 hacc2 hal2 hap2
      have eacc : acc2 = nvs (Mai.canon (m.signs g)) := by
        unfold Mai.canon nvs
        rw [List.map_map]
        exact vals_each (by rw [hal2, alsm.len]) fun i v x h1 h2 => hap2 i v h1 x h2
      subst eacc
      exact ⟨_, _, _, _, _, D2, rfl, e34.trans e5, fresh_back e34 hD2, hacc2⟩
  · rintro σ H3 ⟨s2, s3, s4, s5, s6, r, rfl, e3, hr0', hr3⟩
    refine ⟨_, rfl, k r H3 e3 hr0' ?_⟩
    rw [hr3, nvs_len]
    have : (m.ou.length : Int).toNat = m.n := by show (m.ou.length : Int).toNat = m.ou.length; omega
    rw [this, Mai.Mach.lawN_n wf]

theorem ok_law_least {f : Addr} {fd : FuncData} (T : Tx K mg c) (D_law_classes : Dfn P w K mg base CX0 1 "_law_classes" p_law_classes (sp_law_classes P w K c)) (F : FnP K "_law_least" "_law_least" s_law_least f fd) : FnOk P w K mg base CX0 2 f fd p_law_least (sp_law_least P w K c) := by
  refine F.ok sc_law_least (fun vs H Q E h => by obtain ⟨_, _, rfl, _⟩ := h; rfl) (fun cdv A outer s H vs Q E hr h => ?_)
  refine ⟨_, PSs.nox (pss_cons (ps_set (i := 1) sc_law_least.nd rfl (Or.inr rfl) (pe_c D_law_classes (hr.mono (by decide)) (pa_cons (pv 0) pa_nil)))
     (pss_cons (ps_set (i := 2) sc_law_least.nd rfl (Or.inr rfl) (pe_lst (pa_cons (pe_ix ix_list (pv 1) pe_int (fun _ _ => rfl)) pa_nil)))
     (pss_cons (ps_set (i := 3) sc_law_least.nd rfl (Or.inl rfl) pe_int)
     (pss_cons (ps_while PassesOwn.never (pt_cmpR op_lt (pv 3) (pe_callB call_len_seq (by rfl) T.b_len PySem.boot_len (pa_cons (pv 2) pa_nil)) (by rfl))
     (pss_cons (ps_for PassesOwn.never rfl (pi_tup (pe_ix ix_tup (pe_ix ix_tup (pv 0) pe_int (fun _ _ => rfl)) (pe_ix ix_list (pv 2) (pv 3) (fun _ _ => rfl)) (fun _ _ => rfl))) (pg_name (i := 4) sc_law_least.nd rfl (Or.inl rfl))
     (pss_one (ps_if (pt_cmpR op_notIn_seq (pe_ix ix_list (pv 1) (pv 4) (fun _ _ => rfl)) (pv 2) (by rfl))
     (pss_one (ps_expr (pe_bm PySem.F.plainAttrs_list PySem.F.slot_list_append PySem.F.type_list_append mt_append (pv 2) (pa_cons (pe_ix ix_list (pv 1) (pv 4) (fun _ _ => rfl)) pa_nil))))
     pss_nil)))
     (pss_one (ps_set (i := 3) sc_law_least.nd rfl (Or.inl rfl) (pe_op op_add (pv 3) pe_int)))))
     (pss_cons (ps_setLc (i := 5) (own := [("_law_s", 6)]) (te := (tCB (rTupOf K) (tCons (tLc (iTup K (tOp (rIxT K) (tOp (rIxT K) (tVar 0) (tC (.int 2))) (tVar 6))) (gName 7) tYes (tBM K "list" (rIndex K) (tVar 2) (tCons (tOp (rIxL K) (tVar 1) (tVar 7)) tNil)) [7]) tNil))) rfl sc_law_least.nd rfl rfl (sw_true rfl rfl rfl (by decide +kernel)) (pi_list (pv 2)) (blkOk_by (N := N_law_least) (sc := (defScope s_law_least)) (by decide +kernel)) (fun _ _ _ _ _ => (pg_name (i := 6) sc_law_least.nd rfl (Or.inl rfl))) (fun _ _ _ _ _ => pts_nil) (fun _ _ _ _ _ => (pe_callTy call_tuple_of (by rfl) T.b_tuple (by decide +kernel) (pa_cons (pe_lc (own := [("_law_t", 7)]) (te := (tBM K "list" (rIndex K) (tVar 2) (tCons (tOp (rIxL K) (tVar 1) (tVar 7)) tNil))) (by rfl) sc_law_least.nd (pi_tup (pe_ix ix_tup (pe_ix ix_tup (pv 0) pe_int (fun _ _ => rfl)) (pv 6) (fun _ _ => rfl))) (blkOk_by (N := N_law_least) (sc := _) (by kernel_rfl)) (fun _ _ _ _ _ => (pg_name (i := 7) sc_law_least.nd rfl (Or.inl rfl))) (fun _ _ _ _ _ => pts_nil) (fun _ _ _ _ _ => (pe_bm PySem.F.plainAttrs_list PySem.F.slot_list_index PySem.F.type_list_index mt_index (pv 2) (pa_cons (pe_ix ix_list (pv 1) (pv 7) (fun _ _ => rfl)) pa_nil)))) pa_nil))))
     (pss_one (ps_ret (pe_tup (pa_cons (pe_ix ix_tup (pv 0) pe_int (fun _ _ => rfl)) (pa_cons (pe_ix ix_tup (pv 0) pe_int (fun _ _ => rfl)) (pa_cons (pe_callTy call_tuple_of (by rfl) T.b_tuple (by decide +kernel) (pa_cons (pv 5) pa_nil)) (pa_cons (pe_callTy call_tuple_of (by rfl) T.b_tuple (by decide +kernel) (pa_cons (pe_lc (own := [("_law_s", 6)]) (te := (tOp (rIxT K) (tOp (rIxT K) (tVar 0) (tC (.int 3))) (tVar 6))) (by rfl) sc_law_least.nd (pi_list (pv 2)) (blkOk_by (N := N_law_least) (sc := (defScope s_law_least)) (by decide +kernel)) (fun _ _ _ _ _ => (pg_name (i := 6) sc_law_least.nd rfl (Or.inl rfl))) (fun _ _ _ _ _ => pts_nil) (fun _ _ _ _ _ => (pe_ix ix_tup (pe_ix ix_tup (pv 0) pe_int (fun _ _ => rfl)) (pv 6) (fun _ _ => rfl)))) pa_nil)) pa_nil)))))))))))), ?_⟩
  obtain ⟨mv, m, rfl, hm, wf, k⟩ := h
  obtain ⟨a, b, d, rs, rfl, ha, hb, hrs, hd⟩ := id hm
  refine ⟨_, rfl, _, m, rfl, hm, wf, fun g HG eG hg0 hgG => ?_⟩
  replace hrs := hrs.mono fun _ _ _ q => q.keep (tk_ex eG)
  replace ha := eG a _ ha
  replace hb := eG b _ hb
  replace hd := (tk_ex eG).rd hd
  replace k : ∀ v H', Ex HG H' → MA H' v m.least → Q v H' := fun v H' e q => k v H' (eG.trans e) q
  have hg := hgG
  clear hgG hm eG hg0
  have hcl : m.cls.length = m.n := Mai.Mach.clsN_length m m.n
  have hn0 := wf.n0
  have hn30 : m.n ≤ 30 := wf.n30
  refine ⟨_, rfl, _, _, _, _, rfl, rfl, SqL.of hg, at_nat (j := 0) rfl (nvs_get (getD_some (by omega))), sz1, fun r0 hr0 => ?_⟩
  have e1 : Ex HG (upd HG r0 (.lst [nv (m.cls.getD 0 0)])) := Ex.new hr0
  refine ⟨fun mm σ H2 => ∃ (s4 : Option V) (i : Nat) (o : List Nat), mm = 31 - i ∧ σ = [some (V.ref a), some (V.ref g), some (V.ref r0), some (nv i), s4, none, none, none] ∧ Ex HG H2 ∧ H2 r0 = some (.lst (nvs o)) ∧ m.OrdOk o ∧ i ≤ o.length ∧ m.metLoop m.cls (31 - i) i o = m.met m.cls, ⟨31, none, 0, [m.cls.getD 0 0], rfl, rfl, e1, upd_same, Mai.Mach.start_ok wf, Nat.zero_le _, rfl⟩, ?_⟩
  rintro mm σ H2 ⟨s4, i, o, rfl, rfl, e2, hr2, ok, hi, hloop⟩
  have hle := ok.le
  refine ⟨_, rfl, _, rfl, r0, _, rfl, .inl (SqL.of hr2), _, _, rfl, rfl, _, rfl, ?_⟩
  rw [nvs_len]
  by_cases c : i < o.length
  · refine iteP (decide_eq_true (by omega)) ⟨fun σ' H' => ∃ (s4 : Option V) (o' : List Nat), σ' = [some (V.ref a), some (V.ref g), some (V.ref r0), some (nv (i + 1)), s4, none, none, none] ∧ Ex HG H' ∧ H' r0 = some (.lst (nvs o')) ∧ m.OrdOk o' ∧ i + 1 ≤ o'.length ∧ m.metLoop m.cls (31 - (i + 1)) (i + 1) o' = m.met m.cls, ?_, ?_⟩
    · rintro σ' H' ⟨s4, o', e1, e2, e3, e4, e5, e6⟩
      exact ⟨31 - (i + 1), by omega, s4, i + 1, o', rfl, e1, e2, e3, e4, e5, e6⟩
    have hoi : o[i]? = some (o.getD i 0) := getD_some c
    have hos : o.getD i 0 < m.n := (ok.rep _ (List.mem_of_getElem? hoi)).1
    obtain ⟨x2, hx2, a2, rfl, ha2⟩ := hrs.get (row_get wf hos)
    refine ⟨_, rfl, a, _, _, _, rfl, rfl, SqT.of (e2 a _ ha), at_nat (j := 2) rfl rfl, _, rfl, _, rfl, r0, _, _, _, rfl, rfl, SqL.of hr2, at_nat rfl (nvs_get hoi), b, _, _, _, rfl, rfl, SqT.of (e2 b _ hb), at_nat rfl hx2, a2, rfl, ⟨_, SqT.of (e2 a2 _ ha2)⟩,
      for_tup (xs := nvs (m.row (o.getD i 0))) (fun j σ H3 => ∃ (s4 : Option V), σ = [some (V.ref a), some (V.ref g), some (V.ref r0), some (nv i), s4, none, none, none] ∧ Ex HG H3 ∧ H3 r0 = some (.lst (nvs (Mai.Mach.metRow m.cls o ((m.row (o.getD i 0)).take j))))) ⟨_, rfl, e2, hr2⟩ (fun j σ H3 _ ⟨_, _, e, _⟩ => SqT.of (e a2 _ ha2)) ?_ ?_⟩
    · rintro j x σ H3 hx ⟨s4, rfl, e3, hr3⟩
      obtain ⟨t, ht, rfl⟩ := nvs_of hx
      have htn : t < m.n := (wf.row hos).2 t (List.mem_of_getElem? ht)
      have hgt : (nvs m.cls)[t]? = some (nv (m.cls.getD t 0)) := nvs_get (getD_some (by omega))
      have okj : m.OrdOk (Mai.Mach.metRow m.cls o ((m.row (o.getD i 0)).take j)) := ok.row wf fun t ht => (wf.row hos).2 t (List.mem_of_mem_take ht)
      have hstep : Mai.Mach.metRow m.cls o ((m.row (o.getD i 0)).take (j + 1)) = if m.cls.getD t 0 ∈ Mai.Mach.metRow m.cls o ((m.row (o.getD i 0)).take j) then Mai.Mach.metRow m.cls o ((m.row (o.getD i 0)).take j) else Mai.Mach.metRow m.cls o ((m.row (o.getD i 0)).take j) ++ [m.cls.getD t 0] := by
        rw [take_succ' ht, Mai.Mach.metRow_snoc]
      refine ⟨_, rfl, _, rfl, _, _, _, _, rfl, rfl, SqL.of (e3 g _ hg), at_nat rfl hgt, _, rfl, r0, _, rfl, .inl (SqL.of hr3), rfl, flat_nvs _, _, rfl, ?_⟩
      rw [inV_nvs]
      by_cases cm : m.cls.getD t 0 ∈ Mai.Mach.metRow m.cls o ((m.row (o.getD i 0)).take j)
      · refine iteN (by show (!decide _) = false; rw [decide_eq_true cm]; rfl) ⟨_, rfl, e3, ?_⟩
        rw [hstep, if_pos cm]
        exact hr3
      · refine iteP (by show (!decide _) = true; rw [decide_eq_false cm]; rfl) ⟨_, rfl, .inl ⟨rfl, _, SqL.of hr3⟩, _, rfl, _, rfl, _, _, _, _, rfl, rfl, SqL.of (e3 g _ hg), at_nat rfl hgt, r0, _, _, rfl, rfl, hr3, szl ?_, _, rfl, Ex.mut e3 hr0, ?_⟩
        · rw [nvs_len]
          have := okj.le
          omega
        · rw [upd_same, hstep, if_neg cm, nvs_app]
          rfl
    · rintro σ H3 ⟨s4, rfl, e3, hr3⟩
      rw [nvs_len, List.take_length] at hr3
      have ok' : m.OrdOk (Mai.Mach.metRow m.cls o (m.row (o.getD i 0))) := ok.row wf fun t ht => (wf.row hos).2 t ht
      refine ⟨_, rfl, _, _, rfl, rfl, _, _, rfl, e3, hr3, ok', ?_, ?_⟩
      · obtain ⟨x, hx⟩ := Mai.Mach.metRow_pre m.cls (m.row (o.getD i 0)) o
        rw [hx, List.length_append]
        omega
      · rw [← hloop]
        obtain ⟨f, hf⟩ : ∃ f, 31 - i = f + 1 := ⟨30 - i, by omega⟩
        rw [hf]
        show _ = (if i < o.length then _ else _)
        rw [if_pos c]
        have : 31 - (i + 1) = f := by omega
        rw [this]
  · refine iteN (decide_eq_false (by omega)) ?_
    have hmet : m.metLoop m.cls (31 - i) i o = o := by
      cases hf : 31 - i with
      | zero => rfl
      | succ f =>
        show (if i < o.length then _ else _) = _
        rw [if_neg c]
    rw [hmet] at hloop
    subst hloop
    have mok := (Mai.Mach.met_ok wf).1
    have mle := mok.le
    have mcl := (Mai.Mach.met_ok wf).2.2
    have ho := hr2
    have e02 := e2
    refine ⟨_, rfl, r0, rfl, ⟨_, SqL.of ho⟩, fun D hD => lc_w hD (walk_list.mono (fun H3 e => SqL.of (e r0 _ ho)) fun _ _ _ _ _ _ y => y) (fun _ => rfl) (fun i v H3 => ∀ s, (m.met m.cls)[i]? = some s → TW H3 v ((m.row s).map fun t => (m.met m.cls).idxOf (m.cls.getD t 0))) (fun _ _ _ _ _ h hD _ => fun s hs => tw_upd (h s hs) hD) (fun _ _ _ _ h e => fun s hs => (h s hs).keep (tk_ex e)) ?_ (by rw [nvs_len]; omega) ?_⟩
    · rintro i x H3 H3' hi e3 ⟨accD, hDD⟩ ⟨rfl, hx⟩ Q' kq
      obtain ⟨s, hs, rfl⟩ := nvs_of hx
      have hsm := List.mem_of_getElem? hs
      have hsn : s < m.n := (mok.rep s hsm).1
      obtain ⟨x2, hx2, a2, rfl, ha2⟩ := hrs.get (row_get wf hsn)
      have e03 := e02.trans e3
      refine ⟨_, rfl, a, _, _, _, rfl, rfl, SqT.of (e03 a _ ha), at_nat (j := 2) rfl rfl, _, rfl, b, _, _, _, rfl, rfl, SqT.of (e03 b _ hb), at_nat rfl hx2, a2, rfl, ⟨_, SqT.of (e03 a2 _ ha2)⟩, fun D2 hD2 => lc_w hD2 (walk_tup.mono (fun H4 e => SqT.of (e a2 _ (e03 a2 _ ha2))) fun _ _ _ _ _ _ y => y) (fun _ => rfl) (fun j v _ => ∀ t, (m.row s)[j]? = some t → v = nv ((m.met m.cls).idxOf (m.cls.getD t 0))) (fun _ _ _ _ _ h _ _ => h) (fun _ _ _ _ h _ => h) ?_ (by rw [nvs_len, (wf.row hsn).1]; have := wf.k4; omega) ?_⟩
      · rintro j x H4 H4' hj e4 _ ⟨rfl, hx⟩ Q2 kq2
        obtain ⟨t, ht, rfl⟩ := nvs_of hx
        have htm := List.mem_of_getElem? ht
        have htn : t < m.n := (wf.row hsn).2 t htm
        have hin := mcl s hsm t htm
        obtain ⟨g1, g2, g3⟩ := idx_reads hin
        have e24 := e3.trans e4
        refine ⟨_, rfl, .inl ⟨rfl, _, SqL.of (e24 r0 _ ho)⟩, _, rfl, _, rfl, g, _, _, _, rfl, rfl, SqL.of (e24 g _ (e2 g _ hg)), at_nat rfl (nvs_get (getD_some (by omega))), r0, _, _, _, _, rfl, rfl, SqL.of (e24 r0 _ ho), rfl, flat_nvs _, g1, g2, g3, kq2 _ _ (Ex.refl _) (by intro z; cases z) fun t' ht' => ?_⟩
        rw [ht] at ht'
        cases ht'
        rfl
      · intro H4 acc e4 hacc hal hap
        have eacc : acc = nvs ((m.row s).map fun t => (m.met m.cls).idxOf (m.cls.getD t 0)) := by
          unfold nvs
          rw [List.map_map]
          exact vals_each (by rw [hal, nvs_len]) fun i v x h1 h2 => hap i v h1 x h2
        subst eacc
        refine ⟨D2, _, rfl, .inl ⟨SqL.of hacc, fun l hl => ?_⟩⟩
        have hl3 := fresh_back e4 hl
        refine kq _ _ (e4.trans (Ex.new hl)) (by intro z; cases z; rw [hDD] at hl3; cases hl3) fun s' hs' => ?_
        rw [hs] at hs'
        cases hs'
        exact ⟨l, rfl, upd_same⟩
    intro H3 acc e3 hacc hal hap
    have e03 := e02.trans e3
    refine ⟨_, rfl, a, _, _, _, rfl, rfl, SqT.of (e03 a _ ha), at_nat (j := 0) rfl rfl, _, rfl, a, _, _, _, rfl, rfl, SqT.of (e03 a _ ha), at_nat (j := 1) rfl rfl, _, rfl, D, _, rfl, .inl ⟨SqL.of hacc, fun nm hnm => ?_⟩⟩
    have e4 : Ex H3 (upd H3 nm (.tup acc)) := Ex.new hnm
    have hrows : Als (TW (upd H3 nm (.tup acc))) acc m.least.mv := by
      refine Als.each (by rw [hal, nvs_len]) fun i v s h1 h2 => ?_
      exact (hap i v h1 s h2).keep (tk_ex e4)
    have hnm' : upd H3 nm (.tup acc) nm = some (.tup acc) := upd_same
    generalize upd H3 nm (.tup acc) = H4 at *
    have e24 := e3.trans e4
    have e04 := e02.trans e24
    refine ⟨_, rfl, r0, rfl, ⟨_, SqL.of (e24 r0 _ ho)⟩, fun D2 hD2 => lc_w hD2 (walk_list.mono (fun H5 e => SqL.of (e r0 _ (e24 r0 _ ho))) fun _ _ _ _ _ _ y => y) (fun _ => rfl) (fun i v _ => ∀ s, (m.met m.cls)[i]? = some s → v = nv (m.at_ s)) (fun _ _ _ _ _ h _ _ => h) (fun _ _ _ _ h _ => h) ?_ (by rw [nvs_len]; omega) ?_⟩
    · rintro i x H5 H5' hi e5 _ ⟨rfl, hx⟩ Q' kq
      obtain ⟨s, hs, rfl⟩ := nvs_of hx
      have hsn : s < m.n := (mok.rep s (List.mem_of_getElem? hs)).1
      have e45 := e04.trans e5
      refine ⟨_, rfl, a, _, _, _, rfl, rfl, SqT.of (e45 a _ ha), at_nat (j := 3) rfl rfl, _, rfl, d, _, _, _, rfl, rfl, sqT_rd ((tk_ex e45).rd hd), at_nat rfl (nvs_get (at_get hsn)), kq _ _ (Ex.refl _) (by intro z; cases z) fun s' hs' => ?_⟩
      rw [hs] at hs'
      cases hs'
      rfl
    · intro H5 acc2 e5 hacc2 hal2 hap2
      have eacc : acc2 = nvs m.least.ou := by
        show acc2 = nvs ((m.met m.cls).map fun s => m.at_ s)
        unfold nvs
        rw [List.map_map]
        exact vals_each (by rw [hal2, nvs_len]) fun i v x h1 h2 => hap2 i v h1 x h2
      subst eacc
      refine ⟨D2, _, rfl, .inl ⟨SqL.of hacc2, fun l hl => ⟨sz4, fun p hp => ?_⟩⟩⟩
      have e6 := (Ex.new (o := HO.tup (nvs m.least.ou)) hl).trans (Ex.new (o := HO.tup [nv m.k, nv m.o, .ref nm, .ref l]) hp)
      have e46 := e5.trans e6
      refine k _ _ (e04.trans e46) ⟨p, nm, l, acc, rfl, upd_same, e46 nm _ hnm', hrows.mono fun _ _ _ q => q.keep (tk_ex e46), .inl ?_⟩
      rw [upd_ne (ne_of_none upd_same hp), upd_same]

/-- slices of tuples: what they hold -/
theorem rtake {K : PySem.W.Frag} {H : Hp} {Q : VK} {a : Addr} {w : List Nat} {i : Nat} (ha : SqT K H a (nvs w)) (hi : i ≤ w.length) (k : ∀ q H', Ex H H' → SqT K H' q (nvs (w.take i)) → Q (.ref q) H') : rSlA K (.ref a) none (some (i : Int)) H Q := by
  have e1 : HT.sIx (nvs w).length (nvs w).length (some (i : Int)) = i := by
    rw [nvs_len]
    unfold HT.sIx
    simp
    split <;> omega
  have e0 : HT.sIx (nvs w).length 0 none = 0 := rfl
  refine ⟨a, _, rfl, ha, fun ⟨_, z⟩ => ?_, fun _ p hp => ?_⟩
  · rw [e1, nvs_len] at z
    refine k a H (Ex.refl H) ?_
    rw [List.take_of_length_le (by omega)]
    exact ha
  · refine k p _ (Ex.new hp) (SqT.of ?_)
    rw [upd_same]
    unfold cutV
    rw [e1, e0, List.drop_zero, Nat.sub_zero]
    unfold nvs
    rw [List.map_take]
theorem rdropT {K : PySem.W.Frag} {H : Hp} {Q : VK} {a : Addr} {w : List Nat} {i : Nat} {z : Int} (ez : z = (i : Int)) (ha : SqT K H a (nvs w)) (hi : i ≤ w.length) (k : ∀ q H', Ex H H' → SqT K H' q (nvs (w.drop i)) → Q (.ref q) H') : rSlA K (.ref a) (some z) none H Q := by
  rw [ez]
  have e1 : HT.sIx (nvs w).length 0 (some (i : Int)) = i := by
    rw [nvs_len]
    unfold HT.sIx
    simp
    split <;> omega
  have e2 : HT.sIx (nvs w).length (nvs w).length none = (nvs w).length := rfl
  refine ⟨a, _, rfl, ha, fun ⟨z, _⟩ => ?_, fun _ p hp => ?_⟩
  · rw [e1] at z
    subst z
    exact k a H (Ex.refl H) ha
  · refine k p _ (Ex.new hp) (SqT.of ?_)
    rw [upd_same]
    unfold cutV
    rw [e1, e2, List.take_of_length_le (by simp)]
    unfold nvs
    rw [List.map_drop]
theorem rop_mono {K : PySem.W.Frag} {x y : V} {H : Hp} {Q Q' : VK} (h : rCatF K x y H Q) (k : ∀ v H', Q v H' → Q' v H') : rCatF K x y H Q' := by
  obtain ⟨a, b, xs, ys, e1, e2, h1, h2, h3, h4, h5, h6⟩ := h
  exact ⟨a, b, xs, ys, e1, e2, h1, h2, h3, fun z => k _ _ (h4 z), fun z z' => k _ _ (h5 z z'), fun z z' p ob hp hob => k _ _ (h6 z z' p ob hp hob)⟩
theorem noPart_i {σ : List (Option V)} {H : Hp} {Q : Option Int → Hp → Prop} (h : Q none H) : tNoPart σ H Q := h
theorem sqT_ex {K : PySem.W.Frag} {H H' : Hp} {a : Addr} {xs : List V} (e : Ex H H') (h : SqT K H a xs) : SqT K H' a xs := ex_t e h
theorem ok_law_was {f : Addr} {fd : FuncData} (T : Tx K mg c) (D_law_at : Dfn P w K mg base CX0 1 "_law_at" p_law_at (sp_law_at P w K c)) (D_law_machine : Dfn P w K mg base CX0 2 "_law_machine" p_law_machine (sp_law_machine P w K c)) (F : FnP K "_law_was" "_law_was" s_law_was f fd) : FnOk P w K mg base CX0 3 f fd p_law_was (sp_law_was P w K c) := by
  refine F.ok sc_law_was (fun vs H Q E h => by obtain ⟨_, _, _, _, rfl, _⟩ := h; rfl) (fun cdv A outer s H vs Q E hr h => ?_)
  refine ⟨_, PSs.nox (pss_cons (ps_asg (pv 0) (pg_tup (by rfl) (pgs_cons (pg_name (i := 2) sc_law_was.nd rfl (Or.inl rfl)) (pgs_cons (pg_name (i := 3) sc_law_was.nd rfl (Or.inl rfl)) (pgs_cons (pg_name (i := 4) sc_law_was.nd rfl (Or.inl rfl)) (pgs_cons (pg_name (i := 5) sc_law_was.nd rfl (Or.inl rfl)) pgs_nil))))))
     (pss_cons (ps_set (i := 6) sc_law_was.nd rfl (Or.inl rfl) (pe_op op_modN (pe_callTy call_int1 (by rfl) T.b_int (by decide +kernel) (pa_cons (pe_c D_law_at (hr.mono (by decide)) (pa_cons (pv 1) (pa_cons pe_int pa_nil))) pa_nil)) pe_int))
     (pss_cons (ps_if (pt_cmpR op_eq (pv 6) pe_int (by rfl))
     (pss_one (ps_ret (pv 0)))
     pss_nil)
     (pss_cons (ps_if (pt_cmpR op_eq (pv 6) pe_int (by rfl))
     (pss_one (ps_ret (pe_tup (pa_cons (pv 2) (pa_cons (pv 3) (pa_cons (pe_op op_catA (pv 4) (pe_tup (pa_cons (pe_ix ix_tup (pv 4) pe_int (fun _ _ => rfl)) pa_nil))) (pa_cons (pe_op op_catF (pv 5) (pe_tupF (pa_cons (pe_ix ix_tup (pv 5) pe_int (fun _ _ => rfl)) pa_nil))) pa_nil)))))))
     pss_nil)
     (pss_cons (ps_if (pt_cmpR op_eq (pv 6) pe_int (by rfl))
     (pss_cons (ps_set (i := 7) sc_law_was.nd rfl (Or.inl rfl) (pe_op op_modN (pe_callTy call_int1 (by rfl) T.b_int (by decide +kernel) (pa_cons (pe_c D_law_at (hr.mono (by decide)) (pa_cons (pv 1) (pa_cons pe_int pa_nil))) pa_nil)) (pe_callB call_len_seq (by rfl) T.b_len PySem.boot_len (pa_cons (pv 5) pa_nil))))
     (pss_one (ps_ret (pe_tup (pa_cons (pv 2) (pa_cons (pv 3) (pa_cons (pv 4) (pa_cons (pe_op op_catF (pe_op op_catF (pe_slice sl_tupA (pv 5) po_none (po_some (pv 7))) (pe_tupF (pa_cons (pe_op op_modN (pe_op op_add (pe_ix ix_tup (pv 5) (pv 7) (fun _ _ => rfl)) pe_int) (pv 3)) pa_nil))) (pe_slice sl_tupA (pv 5) (po_some (pe_op op_add (pv 7) pe_int)) po_none)) pa_nil))))))))
     pss_nil)
     (pss_one (ps_ret (pe_c D_law_machine (hr.mono (by decide)) (pa_cons (pv 1) (pa_cons pe_int (pa_cons (pv 2) (pa_cons (pv 3) (pa_cons (pe_op op_add pe_int (pe_op op_modN (pe_callTy call_int1 (by rfl) T.b_int (by decide +kernel) (pa_cons (pe_c D_law_at (hr.mono (by decide)) (pa_cons (pv 1) (pa_cons pe_int pa_nil))) pa_nil)) pe_int)) pa_nil))))))))))))), ?_⟩
  obtain ⟨mv, m, r, row, rfl, hM, wf, hr', hn6, kq⟩ := h
  obtain ⟨a, b, d, rs, rfl, ha, hb, hrs, hd⟩ := id hM
  have n1 : 1 ≤ m.n := wf.n1
  have hrl : rs.length = m.n := by rw [hrs.len]; exact wf.len
  have hol : (nvs m.ou).length = m.n := nvs_len _
  refine ⟨_, rfl, a, _, rfl, SqT.of ha, rfl, _, _, rfl, _, _, rfl, _, _, rfl, _, _, rfl, rfl, ?_⟩
  refine ⟨_, rfl, r, 4, row, rfl, hr', .inl ⟨_, rfl, _, _, rfl, rfl, (show (4 : Int) ≠ 0 by decide), ?_⟩⟩
  refine ⟨_, rfl, rfl, _, rfl, ite2 (fun _ => ⟨_, rfl, kq H _ m (Ex.refl H) hM wf rfl rfl (by omega)⟩) fun _ => ?_⟩
  refine ⟨_, rfl, rfl, _, rfl, ite2 (fun _ => ?_) fun _ => ?_⟩
  · -- one state more
    have hr0 : rs[0]? = some rs[0] := List.getElem?_eq_getElem (by omega)
    have ho0 : (nvs m.ou)[0]? = some (nv (m.at_ 0)) := nvs_get (at_get (by omega))
    obtain ⟨row0, hrow0, hv0⟩ := hrs.of hr0
    refine ⟨_, rfl, _, rfl, _, rfl, _, rfl, b, _, _, _, rfl, rfl, SqT.of hb, at_nat (j := 0) rfl hr0, sz1, fun p1 hp1 => ?_⟩
    have e1 : Ex H (upd H p1 (.tup [rs[0]])) := Ex.new hp1
    refine ⟨b, p1, _, _, rfl, rfl, SqT.of (e1 b _ hb), SqT.of upd_same, szle (by show rs.length + 1 < 1000000; omega), ?_, ?_, ?_⟩
    · intro z
      rw [z] at hrl
      simp at hrl
      omega
    · intro _ z
      cases z
    intro _ _ p2 hp2
    have e2 := e1.trans (Ex.new (o := HO.tup (rs ++ [rs[0]])) hp2)
    have hp22 : upd (upd H p1 (.tup [rs[0]])) p2 (.tup (rs ++ [rs[0]])) p2 = some (.tup (rs ++ [rs[0]])) := upd_same
    generalize upd (upd H p1 (.tup [rs[0]])) p2 (.tup (rs ++ [rs[0]])) = H2 at *
    have hd2 := (tk_ex e2).fz hd
    refine ⟨_, rfl, _, rfl, d, _, _, _, rfl, rfl, sqT_rd hd2.rd, at_nat (j := 0) rfl ho0, sz1, fun p3 ob3 hp3 hob3 => ?_⟩
    have e3 : Ex H2 (upd H2 p3 (.frz ob3 (.tup [nv (m.at_ 0)]))) := Ex.new hp3
    refine ⟨d, p3, _, _, rfl, rfl, sqT_rd ((tk_ex e3).fz hd2).rd, .inl (.inr ⟨_, upd_same⟩), szle (by show (nvs m.ou).length + 1 < 1000000; omega), ?_, ?_, ?_⟩
    · intro z
      rw [z] at hol
      simp at hol
      omega
    · intro _ z
      cases z
    intro _ _ p4 ob4 hp4 hob4
    refine ⟨sz4, fun p hp => ?_⟩
    have e4 := e3.trans ((Ex.new (o := HO.frz ob4 (.tup (nvs m.ou ++ [nv (m.at_ 0)]))) hp4).trans (Ex.new (o := HO.tup [nv m.k, nv m.o, .ref p2, .ref p4]) hp))
    have e04 := e2.trans e4
    refine kq _ _ ⟨m.k, m.o, m.mv ++ [row0], m.ou ++ [m.at_ 0]⟩ e04 ⟨p, p2, p4, rs ++ [rs[0]], rfl, upd_same, e4 p2 _ hp22, (hrs.mono fun _ _ _ q => q.keep (tk_ex e04)).snoc (hv0.keep (tk_ex e04)), ob4, ?_, hob4⟩ ⟨wf.k1, wf.k4, wf.o1, wf.o6, ?_, ?_, ?_, ?_, ?_⟩ rfl rfl ?_
    · rw [upd_ne (ne_of_none upd_same hp), upd_same, nvs_app]
      rfl
    · show 1 ≤ (m.ou ++ [m.at_ 0]).length
      rw [List.length_append]
      show 1 ≤ _ + 1
      omega
    · show (m.ou ++ [m.at_ 0]).length ≤ 30
      rw [List.length_append]
      show m.n + 1 ≤ 30
      omega
    · show (m.mv ++ [row0]).length = (m.ou ++ [m.at_ 0]).length
      rw [List.length_append, List.length_append, wf.len]
      rfl
    · intro q hq
      have hq' : q ∈ m.mv := by
        rcases List.mem_append.mp hq with hq | hq
        · exact hq
        · have : q = row0 := by simpa using hq
          rw [this]
          exact List.mem_of_getElem? hrow0
      obtain ⟨w1, w2⟩ := wf.rows q hq'
      refine ⟨w1, fun t ht => Nat.lt_of_lt_of_le (w2 t ht) ?_⟩
      show m.ou.length ≤ (m.ou ++ [m.at_ 0]).length
      rw [List.length_append]
      omega
    · intro q hq
      rcases List.mem_append.mp hq with hq | hq
      · exact wf.ous q hq
      · have : q = m.at_ 0 := by simpa using hq
        rw [this]
        exact wf.at_lt (by omega)
    · show (m.ou ++ [m.at_ 0]).length ≤ 7
      rw [List.length_append]
      show m.n + 1 ≤ 7
      omega
  refine ⟨_, rfl, rfl, _, rfl, ite2 (fun _ => ?_) fun _ => ?_⟩
  · -- one output changed
    refine ⟨_, rfl, r, 5, row, rfl, hr', .inl ⟨_, rfl, _, rfl, d, _, rfl, .inr (sqT_rd hd.rd), _, _, rfl, rfl, by omega, ?_⟩⟩
    have es : ((row.getD 5 0 : Nat) : Int).fmod (((nvs m.ou).length : Nat) : Int) = ((row.getD 5 0 % (nvs m.ou).length : Nat) : Int) := fmod_nat _ _ (by omega)
    have hs : row.getD 5 0 % (nvs m.ou).length < m.n := by rw [← hol]; exact Nat.mod_lt _ (by omega)
    have es' : V.int (((row.getD 5 0 : Nat) : Int).fmod (((nvs m.ou).length : Nat) : Int)) = nv (row.getD 5 0 % (nvs m.ou).length) := congrArg V.int es
    show gName 7 (V.int (((row.getD 5 0 : Nat) : Int).fmod (((nvs m.ou).length : Nat) : Int))) _ _ _
    rw [es']
    generalize row.getD 5 0 % (nvs m.ou).length = s at *
    have hsl : s < m.ou.length := hs
    have ho1 := wf.o1
    refine ⟨_, rfl, _, rfl, _, rfl, _, rfl, _, rfl, (s : Int), rfl, ?_⟩
    refine rtake (sqT_rd hd.rd) (by omega) fun q1 H1 e1 hq1 => ?_
    refine ⟨_, rfl, _, rfl, d, _, _, _, rfl, rfl, sqT_rd ((tk_ex e1).fz hd).rd, at_nat rfl (nvs_get (at_get hs)), _, _, rfl, rfl, _, rfl, _, _, rfl, rfl, by omega, sz1, fun p2 ob2 hp2 hob2 => ?_⟩
    have ev : V.int (((m.at_ s : Nat) : Int) + 1) = nv (m.at_ s + 1) := rfl
    have ez : (((m.at_ s : Nat) : Int) + 1).fmod (m.o : Int) = (((m.at_ s + 1) % m.o : Nat) : Int) := fmod_nat (m.at_ s + 1) m.o (by omega)
    have ex : V.int ((((m.at_ s : Nat) : Int) + 1).fmod (m.o : Int)) = nv ((m.at_ s + 1) % m.o) := congrArg V.int ez
    have hxo : (m.at_ s + 1) % m.o < m.o := Nat.mod_lt _ (by omega)
    generalize hxx : (m.at_ s + 1) % m.o = x at *
    have e2 : Ex H1 (upd H1 p2 (.frz ob2 (.tup [V.int ((((m.at_ s : Nat) : Int) + 1).fmod (m.o : Int))]))) := Ex.new hp2
    have hp22 : FzT (upd H1 p2 (.frz ob2 (.tup [V.int ((((m.at_ s : Nat) : Int) + 1).fmod (m.o : Int))]))) p2 (nvs [x]) := ⟨ob2, by rw [upd_same, ex]; rfl, hob2⟩
    have etk : ∀ (u : V) (z : HO), u = V.int ((((m.at_ s : Nat) : Int) + 1).fmod (m.o : Int)) → True := fun _ _ _ => trivial
    have step : ∀ (q : Addr) (H3 : Hp), Ex (upd H1 p2 (.frz ob2 (.tup [V.int ((((m.at_ s : Nat) : Int) + 1).fmod (m.o : Int))]))) H3 → FzT H3 q (nvs (m.ou.take s ++ [x])) → ∀ (q5 : Addr) (H5 : Hp), Ex H3 H5 → SqT K H5 q5 (nvs (m.ou.drop (s + 1))) → rCatF K (.ref q) (.ref q5) H5 fun v H6 => ∀ pp, H6 pp = none → Q (.ref pp) (upd H6 pp (.tup [nv m.k, nv m.o, .ref b, v])) := fun q H3 e3 hq q5 H5 e5 hq5 => by
      have e05 := ((e1.trans e2).trans e3).trans e5
      have hq' := (tk_ex e5).fz hq
      have hlen : (m.ou.take s ++ [x] ++ m.ou.drop (s + 1)).length = m.ou.length := by simp; omega
      have mem : ∀ y ∈ m.ou.take s ++ [x] ++ m.ou.drop (s + 1), y < m.o := fun y hy => by
        rcases List.mem_append.mp hy with hy | hy
        · rcases List.mem_append.mp hy with hy | hy
          · exact wf.ous y (List.mem_of_mem_take hy)
          · have : y = x := by simpa using hy
            rw [this]; exact hxo
        · exact wf.ous y (List.mem_of_mem_drop hy)
      have done : ∀ (z : Addr) (H6 : Hp), Ex H5 H6 → FzT H6 z (nvs (m.ou.take s ++ [x] ++ m.ou.drop (s + 1))) → ∀ pp, H6 pp = none → Q (.ref pp) (upd H6 pp (.tup [nv m.k, nv m.o, .ref b, .ref z])) := fun z H6 e6 hz pp hpp => by
        have e7 : Ex H6 (upd H6 pp (.tup [nv m.k, nv m.o, .ref b, .ref z])) := Ex.new hpp
        have e07 := (e05.trans e6).trans e7
        refine kq _ _ ⟨m.k, m.o, m.mv, m.ou.take s ++ [x] ++ m.ou.drop (s + 1)⟩ e07 ⟨pp, b, z, rs, rfl, upd_same, e07 b _ hb, hrs.mono fun _ _ _ q => q.keep (tk_ex e07), (tk_ex e7).fz hz⟩ ⟨wf.k1, wf.k4, wf.o1, wf.o6, by show 1 ≤ _; rw [hlen]; exact wf.n1, by show _ ≤ 30; rw [hlen]; exact wf.n30, by show m.mv.length = _; rw [hlen]; exact wf.len, fun q hq => by show _ ∧ ∀ t ∈ q, t < _; rw [hlen]; exact wf.rows q hq, mem⟩ rfl rfl ?_
        show _ ≤ 7
        have : (m.ou.take s ++ [x] ++ m.ou.drop (s + 1)).length ≤ 6 := by rw [hlen]; exact hn6
        exact Nat.le_trans this (by decide)
      refine ⟨q, q5, _, _, rfl, rfl, sqT_rd hq'.rd, hq5, by rw [nvs_len, nvs_len]; have h1 := hlen; rw [List.length_append] at h1; exact szle (by have : m.ou.length ≤ 6 := hn6; omega), fun z => ?_, fun _ z => ?_, fun _ _ p ob hp hob => ?_⟩
      · have := congrArg List.length z
        rw [nvs_len, List.length_append] at this
        simp at this
      · have hz : m.ou.drop (s + 1) = [] := List.map_eq_nil_iff.mp z
        refine done q H5 (Ex.refl _) ?_
        rw [hz, List.append_nil]
        exact hq'
      · refine done p _ (Ex.new hp) ⟨ob, ?_, hob⟩
        rw [upd_same, nvs_app _ (m.ou.drop (s + 1))]
    refine ⟨q1, p2, _, _, rfl, rfl, sqT_ex e2 hq1, sqT_rd hp22.rd, szle (by show (nvs (m.ou.take s)).length + 1 < 1000000; rw [nvs_len, List.length_take]; omega), ?_, ?_, ?_⟩
    · intro z
      have hz : m.ou.take s = [] := List.map_eq_nil_iff.mp z
      refine ⟨_, rfl, _, rfl, _, _, rfl, rfl, _, rfl, ?_⟩
      refine noPart_i ?_
      refine rdropT (w := m.ou) (i := s + 1) (z := (s : Int) + 1) rfl (sqT_ex (e1.trans e2) (sqT_rd hd.rd)) (by omega) fun q5 H5 e5 hq5 => ?_
      have st := step p2 _ (Ex.refl _) (by rw [hz]; exact hp22) q5 H5 e5 hq5
      refine rop_mono st fun v H6 y => ⟨sz4, y⟩
    · intro _ z
      cases z
    · intro _ _ p ob hp hob
      have e3 := Ex.new (o := HO.frz ob (.tup (nvs (m.ou.take s) ++ nvs [x]))) hp
      have hq3 : FzT (upd (upd H1 p2 (.frz ob2 (.tup [V.int ((((m.at_ s : Nat) : Int) + 1).fmod (m.o : Int))]))) p (.frz ob (.tup (nvs (m.ou.take s) ++ nvs [x])))) p (nvs (m.ou.take s ++ [x])) := ⟨ob, by rw [upd_same, nvs_app], hob⟩
      refine ⟨_, rfl, _, rfl, _, _, rfl, rfl, _, rfl, ?_⟩
      refine noPart_i ?_
      refine rdropT (w := m.ou) (i := s + 1) (z := (s : Int) + 1) rfl (sqT_ex ((e1.trans e2).trans e3) (sqT_rd hd.rd)) (by omega) fun q5 H5 e5 hq5 => ?_
      have st := step p _ e3 hq3 q5 H5 e5 hq5
      refine rop_mono st fun v H6 y => ⟨sz4, y⟩
  · -- another machine
    refine ⟨_, rfl, _, rfl, _, rfl, _, rfl, r, 5, row, rfl, hr', .inl ⟨_, rfl, _, _, rfl, rfl, (show (6 : Int) ≠ 0 by decide), _, _, rfl, rfl, ?_⟩⟩
    have ez : (1 : Int) + ((row.getD 5 0 : Nat) : Int).fmod 6 = ((1 + row.getD 5 0 % 6 : Nat) : Int) := by
      have h6 := fmod_nat (row.getD 5 0) 6 (by omega)
      have h7 : ((row.getD 5 0 : Nat) : Int).fmod 6 = ((row.getD 5 0 % 6 : Nat) : Int) := h6
      rw [h7]
      omega
    refine ⟨r, 60, m.k, m.o, 1 + row.getD 5 0 % 6, row, ?_, hr', wf.k1, wf.k4, wf.o1, wf.o6, by omega, by omega, fun H' v m' e hm' wf' ek eo en => kq H' v m' e hm' wf' ek eo (by omega)⟩
    show [V.ref r, nv 60, nv m.k, nv m.o, V.int _] = _
    rw [ez]
    rfl
end
end MW
/-! ## W14 -/
namespace MW
open PySem PySem.Spec PyProof.Rows L2 Evl
def sp_law (P : Program) (w : World) (K : PySem.W.Frag) (c : Cs) : Sp := fun vs H Q _ => ∃ (a : Addr) (ns : List Int), vs = [.ref a] ∧ SqL K H a (ns.map V.int) ∧ ns.length ≤ 63 ∧ ∀ H', Q (.bl true) H'
/-! ### machines and steps as plain data -/
def pm (m : Mai.Mach) : PyData := .tuple [pn m.k, pn m.o, .tuple (m.mv.map pw), pw m.ou]
theorem pm_eqv (a b : Mai.Mach) : PyData.eqv (pm a) (pm b) = decide (a = b) := by
  obtain ⟨k1, o1, v1, u1⟩ := a
  obtain ⟨k2, o2, v2, u2⟩ := b
  show PyData.eqv (.tuple [pn k1, pn o1, .tuple (v1.map pw), pw u1]) (.tuple [pn k2, pn o2, .tuple (v2.map pw), pw u2]) = _
  rw [PyData.eqv, PyData.eqvAll, PyData.eqvAll, PyData.eqvAll, PyData.eqvAll, PyData.eqvAll, pn_eqv, pn_eqv, pw_eqv, PyData.eqv, eqvAll_map pw_eqv]
  by_cases e1 : k1 = k2 <;> by_cases e2 : o1 = o2 <;> by_cases e3 : v1 = v2 <;> by_cases e4 : u1 = u2 <;> simp [e1, e2, e3, e4]
theorem pm_lay (m : Mai.Mach) : (pm m).canLay0 = true := by
  unfold pm
  rw [PyData.canLay0, PyData.canLayAll0, PyData.canLayAll0, PyData.canLayAll0, PyData.canLayAll0, PyData.canLayAll0, pn_lay, pn_lay, pw_lay, PyData.canLay0, layAll_map pw_lay]
  rfl
theorem pm_depth (m : Mai.Mach) : (pm m).depth ≤ 10 := by
  unfold pm
  rw [PyData.depth, PyData.depthAll, PyData.depthAll, PyData.depthAll, PyData.depthAll, PyData.depthAll, PyData.depth]
  have h1 := pn_depth m.k
  have h2 := pn_depth m.o
  have h3 := pw_depth m.ou
  have h4 : PyData.depthAll (m.mv.map pw) ≤ 1 := depthAll_map pw_depth _
  omega
theorem pm_sh (m : Mai.Mach) : SeqAt.shaped (pm m) = true := shaped_of (pm_lay m) (Nat.le_trans (pm_depth m) (by decide))
theorem dp_ma {K : PySem.W.Frag} {H : Hp} {v : V} {m : Mai.Mach} (h : MA H v m) : Dp K H v (pm m) := by
  obtain ⟨a, b, d, rs, rfl, ha, hb, hrs, hd⟩ := h
  exact .tup (SqT.of ha) (.cons (.int _) (.cons (.int _) (.cons (.tup (SqT.of hb) (dpAll_als (fun _ _ q => dp_tw q) hrs)) (.cons (.tup (sqT_rd hd) (dpAll_nvs _)) .nil))))
/-- ("x", machine) -/
def px (s : Str) (m : Mai.Mach) : PyData := .tuple [.str s, pm m]
def pf (s : Str) : PyData := .tuple [.str s]
theorem px_lay (s : Str) (m : Mai.Mach) (hs : PyData.strOk s = true) : (px s m).canLay0 = true := by
  unfold px
  rw [PyData.canLay0, PyData.canLayAll0, PyData.canLayAll0, PyData.canLayAll0, pm_lay]
  simp [PyData.canLay0, hs]
theorem px_depth (s : Str) (m : Mai.Mach) : (px s m).depth ≤ 11 := by
  unfold px
  rw [PyData.depth, PyData.depthAll, PyData.depthAll, PyData.depthAll]
  have := pm_depth m
  have h : (PyData.str s).depth = 0 := by simp [PyData.depth]
  omega
theorem px_sh (s : Str) (m : Mai.Mach) (hs : PyData.strOk s = true) : SeqAt.shaped (px s m) = true := shaped_of (px_lay s m hs) (Nat.le_trans (px_depth s m) (by decide))
theorem px_self (s : Str) (m : Mai.Mach) : PyData.eqv (px s m) (px s m) = true := by
  unfold px
  rw [PyData.eqv, PyData.eqvAll, PyData.eqvAll, PyData.eqvAll, pm_eqv]
  simp [PyData.eqv]
theorem pf_sh (s : Str) (hs : PyData.strOk s = true) : SeqAt.shaped (pf s) = true := shaped_of (by simp [pf, PyData.canLay0, PyData.canLayAll0, hs]) (by simp [pf, PyData.depth, PyData.depthAll])
theorem pf_self (s : Str) : PyData.eqv (pf s) (pf s) = true := by simp [pf, PyData.eqv, PyData.eqvAll]
theorem dp_px {K : PySem.W.Frag} {H : Hp} {a : Addr} {s : Str} {x : V} {m : Mai.Mach} (h : H a = some (.tup [.str s, x])) (hx : MA H x m) : Dp K H (.ref a) (px s m) := .tup (SqT.of h) (.cons (.str s) (.cons (dp_ma hx) .nil))
theorem dp_pf {K : PySem.W.Frag} {H : Hp} {a : Addr} {s : Str} (h : H a = some (.tup [.str s])) : Dp K H (.ref a) (pf s) := .tup (SqT.of h) (.cons (.str s) .nil)
theorem str_p : PyData.strOk (Str.ofString "propose") = true := by decide +kernel
theorem str_d : PyData.strOk (Str.ofString "done") = true := by decide +kernel
theorem str_f : PyData.strOk (Str.ofString "full") = true := by decide +kernel
/-- a loop over a range, with a way out -/
theorem for_rangeB {lo : Int} {n : Nat} {g : TG} {tb : TS} {D : Ends} {σ : L2.St} {H : Hp} (Pv : Nat → L2.St → Hp → Prop) (Fin : L2.St → Hp → Prop) (h0 : Pv 0 σ H)
    (hs : ∀ i σ H, i < n → Pv i σ H → ∀ B : L2.St → Hp → Prop, (∀ σ H, Fin σ H → B σ H) → g (.int (lo + i)) σ H fun σ2 H2 => tb { D with nx := Pv (i + 1), ct := Pv (i + 1), bk := B } σ2 H2) (hd : ∀ σ H, Pv n σ H → Fin σ H) (hf : ∀ σ H, Fin σ H → D.nx σ H) :
    ∃ W : Nat → Nat → L2.St → Hp → Prop, (∃ m, W 0 m σ H) ∧ ∀ i m σ H, W i m σ H →
      ((Itr lo n).stop i H ∧ D.nx σ H) ∨ ((Itr lo n).go i H ∧ ∃ N : L2.St → Hp → Prop, (∀ σ' H', N σ' H' → ∃ m', m' < m ∧ W (i + 1) m' σ' H') ∧ ∀ x H', (Itr lo n).yld i H x H' → g x σ H' fun σ2 H2 => tb { D with nx := N, ct := N, bk := D.nx } σ2 H2) :=
  for_range Pv h0 (fun i σ H hi p => hs i σ H hi p D.nx hf) fun σ H p => hf σ H (hd σ H p)
/-! ### the play in plain Lean -/
theorem bd_small {P : Mai.Par} {N : Nat} {s : Mai.AS} (b : Mai.Bd P N s) (hN : N ≤ 6) (k : P.k ≤ 4) : s.ws.length ≤ 300 ∧ s.c2 ≤ 6 := by
  have h1 := b.ws
  have h2 : Mai.nn P N ≤ 6 := by unfold Mai.nn; omega
  have h3 := Mai.digs300 b.c3
  have h4 : Mai.nn P N * Mai.nn P N ≤ 6 * 6 := Nat.mul_le_mul h2 h2
  have h5 : Mai.nn P N * Mai.nn P N * (P.k + 1) ≤ 6 * 6 * 5 := Nat.mul_le_mul h4 (by omega)
  have h6 : Mai.nn P N * (Mai.digs s.c3 + 2) ≤ 6 * 11 := Nat.mul_le_mul h2 (by omega)
  have := b.c2
  omega
theorem r_bd {P : Mai.Par} {N : Nat} {s : Mai.AS} {y : Mai.Stp} (h : Mai.R P N s y) : Mai.Bd P N s := by
  cases y with
  | ask w => exact h.1
  | propose m => exact h.1
  | full => exact h.1
  | done m => exact False.elim h
theorem w_sn {P : Mai.Par} {sec : Mai.Mach} {n : Nat} {s : Mai.AS} (x : Mai.Ctx P sec) (h : Mai.W P sec.least.n n s) : s.S.length ≤ sec.least.n := by
  cases h with
  | fill h => exact h.b.SN x
  | judge h => exact h.cl.b.SN x
  | search h => exact h.cl.b.SN x
theorem r_prop {P : Mai.Par} {sec p : Mai.Mach} {s : Mai.AS} (x : Mai.Ctx P sec) (h6 : sec.n ≤ 6) (h : Mai.R P sec.least.n s (.propose p)) : p.WF ∧ p.k = sec.k ∧ p.o = sec.o ∧ p.n ≤ 6 := by
  obtain ⟨bd, wfM, hp, hle, hgo⟩ := h
  have ek : (s.M P).k = sec.k := x.k
  have eo : (s.M P).o = sec.o := x.o
  have wp : p.WF := by rw [hp]; exact Mai.Mach.least_wf wfM
  refine ⟨wp, by rw [hp]; exact ek, by rw [hp]; exact eo, ?_⟩
  have l6 : sec.least.n ≤ 6 := by
    rw [Mai.Mach.least_n x.wf]
    exact Nat.le_trans (Mai.Mach.met_le x.wf) h6
  have em : (s.M P).n = s.S.length := Mai.mach_n
  have pl : p.n ≤ s.S.length := by
    rw [hp, Mai.Mach.least_n wfM, ← em]
    exact Mai.Mach.met_le wfM
  have m30 := x.m30
  cases e : Mai.Mach.search sec (s.M P) with
  | none =>
    have q := Mai.Mach.search_none x.wf wfM ek.symm e
    have e3 : Mai.Mach.Eqv p 0 (s.M P) 0 := by rw [hp]; exact Mai.Mach.least_alike wfM
    have kp : p.k = (s.M P).k := by rw [hp]; rfl
    have q2 : Mai.Mach.Eqv sec 0 p 0 := q.trans ek.symm (e3.symm kp)
    rw [(Mai.accepted x wfM hp hle q2).1]
    exact l6
  | some w =>
    obtain ⟨w1, w2, w3⟩ := Mai.Mach.search_some x.wf wfM ek.symm e
    have : w.length ≤ 300 := by
      have : sec.n * (s.M P).n ≤ 6 * 30 := Nat.mul_le_mul h6 (by omega)
      omega
    obtain ⟨n, hW⟩ := hgo w (by rw [x.k]; exact w1) this (by rw [x.out]; exact w2)
    have := w_sn x hW
    have : s.S.length ≤ sec.least.n := this
    omega
/-- what holds of the words and the counts -/
theorem bound_up {P : Mai.Par} {N : Nat} {s : Mai.AS} {l : Nat} (b : Mai.Bd P N s) : s.ws.length ≤ min N (P.most + 1) * min N (P.most + 1) * (P.k + 1) + min N (P.most + 1) * (Mai.digs (max s.c3 l) + 2) := by
  have h := b.ws
  have h2 : Mai.digs s.c3 ≤ Mai.digs (max s.c3 l) := Mai.digs_mono (Nat.le_max_left _ _)
  have h3 : Mai.nn P N * (Mai.digs s.c3 + 2) ≤ Mai.nn P N * (Mai.digs (max s.c3 l) + 2) := Nat.mul_le_mul_left _ (by omega)
  have e : Mai.nn P N = min N (P.most + 1) := rfl
  rw [← e]
  omega
/-! ### what the law's loop keeps -/
structure LawAt (c : Cs) (m mw : Mai.Mach) (v4 v6 v7 : V) (bx pk wl cl : Addr) (ps : List Nat) (H : Hp) (lb : Addr → Nat) (ws : List (List Nat)) (c0 c1 : Nat) : Prop where
  ok : Lb H lb
  m4 : MF H v4 m
  m6 : MA H v6 mw.least
  m7 : MA H v7 m.least
  box : ∃ dx mv u, H bx = some (.ins c.Honest dx (fl_Honest.zip [mv, .ref pk, nv u])) ∧ MA H mv m
  hpk : H pk = some (.lst (nvs ps))
  lbx : lb bx = 33
  lpk : lb pk = 34
  wd : ∃ us, H wl = some (.lst us) ∧ Als (fun v w => ∃ q, v = .ref q ∧ H q = some (.lst (nvs w)) ∧ lb q = 50) us ws
  lw : lb wl = 31
  ct : H cl = some (.lst [nv c0, nv c1])
  lc : lb cl = 32
theorem LawAt.keep {c : Cs} {m mw : Mai.Mach} {v4 v6 v7 : V} {bx pk wl cl : Addr} {ps : List Nat} {H H' : Hp} {lb lb' : Addr → Nat} {ws : List (List Nat)} {c0 c1 : Nat} {L : List Nat} (h : LawAt c m mw v4 v6 v7 bx pk wl cl ps H lb ws c0 c1) (t : St L lb lb' H H')
    (n1 : 31 ∉ L := by decide) (n2 : 32 ∉ L := by decide) (n3 : 33 ∉ L := by decide) (n4 : 34 ∉ L := by decide) (n5 : 50 ∉ L := by decide) : LawAt c m mw v4 v6 v7 bx pk wl cl ps H' lb' ws c0 c1 := by
  obtain ⟨dx, mv, u, ob, hM⟩ := h.box
  obtain ⟨us, hw, als⟩ := h.wd
  exact ⟨t.ok, h.m4.keep t.tk, h.m6.keep t.tk, h.m7.keep t.tk, ⟨dx, mv, u, t.at ob h.lbx n3, hM.keep t.tk⟩, t.at h.hpk h.lpk n4, t.lab ob h.lbx, t.lab h.hpk h.lpk, ⟨us, t.at hw h.lw n1, als.mono fun v w _ ⟨q, e, h1, h2⟩ => ⟨q, e, t.at h1 h2 n5, t.lab h1 h2⟩⟩, t.lab hw h.lw, t.at h.ct h.lc n2, t.lab h.ct h.lc⟩
theorem LawAt.setct {c : Cs} {m mw : Mai.Mach} {v4 v6 v7 : V} {bx pk wl cl : Addr} {ps : List Nat} {H H' : Hp} {lb lb' : Addr → Nat} {ws : List (List Nat)} {c0 c1 : Nat} {a b : Nat} (h : LawAt c m mw v4 v6 v7 bx pk wl cl ps H lb ws c0 c1) (t : St [32] lb lb' H H') (e : H' cl = some (.lst [nv a, nv b])) : LawAt c m mw v4 v6 v7 bx pk wl cl ps H' lb' ws a b := by
  obtain ⟨dx, mv, u, ob, hM⟩ := h.box
  obtain ⟨us, hw, als⟩ := h.wd
  exact ⟨t.ok, h.m4.keep t.tk, h.m6.keep t.tk, h.m7.keep t.tk, ⟨dx, mv, u, t.at ob h.lbx, hM.keep t.tk⟩, t.at h.hpk h.lpk, t.lab ob h.lbx, t.lab h.hpk h.lpk, ⟨us, t.at hw h.lw, als.mono fun v w _ ⟨q, e, h1, h2⟩ => ⟨q, e, t.at h1 h2, t.lab h1 h2⟩⟩, t.lab hw h.lw, e, t.lab h.ct h.lc⟩
theorem LawAt.setbox {c : Cs} {m mw : Mai.Mach} {v4 v6 v7 : V} {bx pk wl cl : Addr} {ps : List Nat} {H H' : Hp} {lb lb' : Addr → Nat} {ws : List (List Nat)} {c0 c1 : Nat} (h : LawAt c m mw v4 v6 v7 bx pk wl cl ps H lb ws c0 c1) (t : St [33] lb lb' H H') (e : BoxAt c H' bx pk m ps) : LawAt c m mw v4 v6 v7 bx pk wl cl ps H' lb' ws c0 c1 := by
  obtain ⟨dx, mv, u, ob, hM⟩ := h.box
  obtain ⟨dx', mv', u', ob', hM', hp'⟩ := e.ob
  obtain ⟨us, hw, als⟩ := h.wd
  exact ⟨t.ok, h.m4.keep t.tk, h.m6.keep t.tk, h.m7.keep t.tk, ⟨dx', mv', u', ob', hM'⟩, hp', t.lab ob h.lbx, t.lab h.hpk h.lpk, ⟨us, t.at hw h.lw, als.mono fun v w _ ⟨q, e, h1, h2⟩ => ⟨q, e, t.at h1 h2, t.lab h1 h2⟩⟩, t.lab hw h.lw, t.at h.ct h.lc, t.lab h.ct h.lc⟩
theorem box_st {c : Cs} {H H' : Hp} {lb : Addr → Nat} {bx pk r : Addr} {m : Mai.Mach} {ps wd : List Nat} (ok : Lb H lb) (hl : lb bx = 33) (hb : BoxAt c H' bx pk m ps) (b : But (fun a => a = bx) H H') (h0 : H r = none) (hr : H' r = some (.lst (nvs wd))) : ∃ lb', St [33] lb lb' H H' ∧ lb' r = 40 := by
  obtain ⟨dx, mv, u, ob, _⟩ := hb.ob
  refine ⟨relab lb H fun a => if a = r then 40 else 0, St.gen ok b (fun a z => ?_) (by decide) (fun a z => ?_) (fun a h => relab_old h) fun a h q => ?_, (relab_new h0).trans (if_pos rfl)⟩
  · rw [z, hl]
    simp
  · rw [z]
    exact ⟨_, ob, fun z => z⟩
  · rw [relab_new h] at q
    by_cases c1 : a = r
    · rw [c1]
      exact ⟨_, hr, fun z => z⟩
    · rw [if_neg c1] at q
      exact absurd rfl q
theorem LawAt.setwd {c : Cs} {m mw : Mai.Mach} {v4 v6 v7 : V} {bx pk wl cl : Addr} {ps : List Nat} {H H' : Hp} {lb lb' : Addr → Nat} {ws ws' : List (List Nat)} {c0 c1 : Nat} (h : LawAt c m mw v4 v6 v7 bx pk wl cl ps H lb ws c0 c1) (t : St [31] lb lb' H H') (e : ∃ us, H' wl = some (.lst us) ∧ Als (fun v w => ∃ q, v = .ref q ∧ H' q = some (.lst (nvs w)) ∧ lb' q = 50) us ws') : LawAt c m mw v4 v6 v7 bx pk wl cl ps H' lb' ws' c0 c1 := by
  obtain ⟨dx, mv, u, ob, hM⟩ := h.box
  obtain ⟨us, hw, als⟩ := h.wd
  exact ⟨t.ok, h.m4.keep t.tk, h.m6.keep t.tk, h.m7.keep t.tk, ⟨dx, mv, u, t.at ob h.lbx, hM.keep t.tk⟩, t.at h.hpk h.lpk, t.lab ob h.lbx, t.lab h.hpk h.lpk, e, t.lab hw h.lw, t.at h.ct h.lc, t.lab h.ct h.lc⟩
def Play (c : Cs) (par : Mai.Par) (m mw : Mai.Mach) (x p : Addr) (H : Hp) (lb : Addr → Nat) (ws : List (List Nat)) (c0 c1 i : Nat) : Prop :=
  (ws = [] ∧ c0 = 0 ∧ c1 = 0 ∧ i = 0 ∧ ∃ A s sv y bv fa, ChAt c par H lb x p A s sv y bv (.ref fa) 0 ∧ H fa = some (.tup [.str "propose", bv]) ∧ MA H bv mw.least ∧ Mai.R par m.least.n s y ∧ s.ws = [] ∧ s.c3 = 0 ∧ s.c2 = 0 + isP y ∧ A.nr = 0) ∨
  (∃ A s sv y bv lg, ChAt c par H lb x p A s sv y bv .non lg ∧ Mai.R par m.least.n s y ∧ s.ws = ws ∧ c0 + isP y = s.c2 + 1 ∧ c1 = max s.c3 lg ∧ i ≤ ws.length + c0 ∧ A.nr ≤ i ∧ mw.least ≠ m.least)
def Over (c : Cs) (par : Mai.Par) (m mw : Mai.Mach) (x p : Addr) (H : Hp) (lb : Addr → Nat) (ws : List (List Nat)) (c0 c1 : Nat) : Prop :=
  (∃ A s sv bv lg, ChAt c par H lb x p A s sv .full bv .non lg ∧ Mai.R par m.least.n s .full ∧ s.ws = ws ∧ c0 = s.c2 + 1 ∧ c1 = max s.c3 lg ∧ mw.least ≠ m.least) ∨
  (∃ A s sv bv lg, ChAt c par H lb x p A s sv (.done m.least) bv .non lg ∧ Mai.Bd par m.least.n s ∧ m.least.n ≤ par.most ∧ s.ws = ws ∧ c0 = s.c2 + 1 ∧ c1 = max s.c3 lg ∧ mw.least ≠ m.least) ∨
  (ws = [] ∧ c0 = 1 ∧ c1 = 0 ∧ mw.least = m.least ∧ ∃ A s sv y bv fa, ChAt c par H lb x p A s sv y bv (.ref fa) 0 ∧ H fa = some (.tup [.str "done", bv]) ∧ MA H bv mw.least)
abbrev LB : List Nat := [31, 32, 33, 40]
theorem AskAt.keepB {c : Cs} {par : Mai.Par} {lb lb' : Addr → Nat} {H H' : Hp} {p : Addr} {A : AD} {s : Mai.AS} {rest : List V} (a : AskAt c par H lb p A s rest) (t : St LB lb lb' H H') : AskAt c par H' lb' p A s rest := by
  obtain ⟨h1, h2⟩ := qu_keep a.qu a.lq t
  exact ⟨t.at a.ob a.lp, t.lab a.ob a.lp, a.b.keep t, a.vm.keep t.tk, a.vsh.keep t.tk, a.vse.keep t, h1, h2⟩
theorem ChAt.keepB {c : Cs} {par : Mai.Par} {lb lb' : Addr → Nat} {H H' : Hp} {x p : Addr} {A : AD} {s : Mai.AS} {sv : V} {y : Mai.Stp} {bv fv : V} {lg : Nat} (h : ChAt c par H lb x p A s sv y bv fv lg) (t : St LB lb lb' H H') : ChAt c par H' lb' x p A s sv y bv fv lg :=
  ⟨let ⟨dx, ob⟩ := h.ob; ⟨dx, t.at ob h.lx⟩, let ⟨dx, ob⟩ := h.ob; t.lab ob h.lx, h.aa.keepB t, h.sv.keep t⟩
theorem St.toB {lb lb' : Addr → Nat} {H H' : Hp} (t : St [] lb lb' H H') : St LB lb lb' H H' := t.mono (by simp) (by decide)
section
variable {c : Cs} {par : Mai.Par} {m mw : Mai.Mach} {x p : Addr} {H H' : Hp} {lb lb' : Addr → Nat} {ws : List (List Nat)} {c0 c1 : Nat}
theorem Over.keep (h : Over c par m mw x p H lb ws c0 c1) (t : St LB lb lb' H H') : Over c par m mw x p H' lb' ws c0 c1 := by
  rcases h with ⟨A, s, sv, bv, lg, ch, q⟩ | ⟨A, s, sv, bv, lg, ch, q⟩ | ⟨q1, q2, q3, q4, A, s, sv, y, bv, fa, ch, hfa, hbv⟩
  · exact .inl ⟨A, s, sv, bv, lg, ch.keepB t, q⟩
  · exact .inr (.inl ⟨A, s, sv, bv, lg, ch.keepB t, q⟩)
  · exact .inr (.inr ⟨q1, q2, q3, q4, A, s, sv, y, bv, fa, ch.keepB t, t.tk.at hfa, hbv.keep t.tk⟩)
theorem Over.ob (h : Over c par m mw x p H lb ws c0 c1) : ∃ dx fs, H x = some (.ins c.ChangedAsker dx (fl_ChangedAsker.zip fs)) := by
  rcases h with ⟨A, s, sv, bv, lg, ch, q⟩ | ⟨A, s, sv, bv, lg, ch, q⟩ | ⟨q1, q2, q3, q4, A, s, sv, y, bv, fa, ch, hfa, hbv⟩ <;> exact let ⟨dx, ob⟩ := ch.ob; ⟨dx, _, ob⟩
def due (par : Mai.Par) (m : Mai.Mach) : PyData := if par.most < m.least.n then pf "full" else px "done" m.least
theorem due_sh (par : Mai.Par) (m : Mai.Mach) : SeqAt.shaped (due par m) = true := by
  unfold due
  split
  · exact pf_sh _ str_f
  · exact px_sh _ _ str_d
theorem due_self (par : Mai.Par) (m : Mai.Mach) : PyData.eqv (due par m) (due par m) = true := by
  unfold due
  split
  · exact pf_self _
  · exact px_self _ _
theorem Over.step {P : Program} {w : World} {K : PySem.W.Frag} {Q : VK} {E : XK} (h : Over c par m mw x p H lb ws c0 c1) (hB : mw.least.n ≤ par.most) (k : ∀ v, Dp K H v (due par m) → Q v H) : sp_ChangedAsker_step P w K c [.ref x] H Q E := by
  rcases h with ⟨A, s, sv, bv, lg, ch, hR, q⟩ | ⟨A, s, sv, bv, lg, ch, hbd, hle, q⟩ | ⟨q1, q2, q3, q4, A, s, sv, y, bv, fa, ch, hfa, hbv⟩
  · refine ⟨x, p, par, lb, A, s, sv, .full, bv, .non, lg, rfl, ch, .inr ⟨rfl, (fun _ z => nomatch z), fun _ => k _ ?_⟩⟩
    obtain ⟨sa, rfl, hsa⟩ := ch.sv
    unfold due
    rw [if_pos hR.2]
    exact dp_pf hsa
  · refine ⟨x, p, par, lb, A, s, sv, .done m.least, bv, .non, lg, rfl, ch, .inr ⟨rfl, (fun _ z => nomatch z), fun _ => k _ ?_⟩⟩
    obtain ⟨sa, sx, rfl, hsa, hsx⟩ := ch.sv
    unfold due
    rw [if_neg (by omega)]
    exact dp_px hsa hsx
  · refine ⟨x, p, par, lb, A, s, sv, y, bv, .ref fa, 0, rfl, ch, .inl ⟨⟨fa, rfl⟩, k _ ?_⟩⟩
    unfold due
    rw [← q4, if_neg (by omega)]
    exact dp_px hfa hbv
theorem Over.report {P : Program} {w : World} {K : PySem.W.Frag} {Q : VK} {E : XK} (h : Over c par m mw x p H lb ws c0 c1) (k : ∀ H' a, Ex H H' → H' a = some (.tup [nv ws.length, nv (ws.map List.length).sum, nv c0, nv c1]) → Q (.ref a) H') : sp_ChangedAsker_report P w K c [.ref x] H Q E := by
  rcases h with ⟨A, s, sv, bv, lg, ch, hR, q1, q2, q3, _⟩ | ⟨A, s, sv, bv, lg, ch, hbd, hle, q1, q2, q3, _⟩ | ⟨q1, q2, q3, q4, A, s, sv, y, bv, fa, ch, hfa, hbv⟩
  · subst q1 q2 q3
    exact ⟨x, p, par, lb, A, s, sv, .full, bv, .non, lg, rfl, ch, .inr ⟨rfl, k⟩⟩
  · subst q1 q2 q3
    exact ⟨x, p, par, lb, A, s, sv, .done m.least, bv, .non, lg, rfl, ch, .inr ⟨rfl, k⟩⟩
  · subst q1 q2 q3
    exact ⟨x, p, par, lb, A, s, sv, y, bv, .ref fa, 0, rfl, ch, .inl ⟨⟨fa, rfl⟩, k⟩⟩
/-- what the counts say at the end -/
theorem Over.counts (h : Over c par m mw x p H lb ws c0 c1) : c0 ≤ min m.least.n (par.most + 1) + 1 ∧ ws.length ≤ min m.least.n (par.most + 1) * min m.least.n (par.most + 1) * (par.k + 1) + min m.least.n (par.most + 1) * (Mai.digs c1 + 2) ∧ (mw.least = m.least → c0 = 1 ∧ ws = []) := by
  rcases h with ⟨A, s, sv, bv, lg, ch, hR, q1, q2, q3, q4⟩ | ⟨A, s, sv, bv, lg, ch, hbd, hle, q1, q2, q3, q4⟩ | ⟨q1, q2, q3, q4, _⟩
  · subst q1 q2 q3
    have h2 := hR.1.c2
    exact ⟨Nat.succ_le_succ h2, bound_up hR.1, fun z => absurd z q4⟩
  · subst q1 q2 q3
    have h2 := hbd.c2
    exact ⟨Nat.succ_le_succ h2, bound_up hbd, fun z => absurd z q4⟩
  · subst q1 q2 q3
    exact ⟨by omega, Nat.zero_le _, fun _ => ⟨rfl, rfl⟩⟩
end
end MW
/-! ## Z1 -/
namespace MW
open PySem PySem.Spec PyProof.Rows L2 Evl
section
variable {P : Program} {w : World} {K : PySem.W.Frag} {c : Cs} {par : Mai.Par} {m mw : Mai.Mach} {x p wl cl : Addr} {σ : L2.St} {H : Hp} {lb : Addr → Nat} {us : List V} {ws : List (List Nat)} {c0 c1 : Nat}
theorem andor_end {Q : Bool → Hp → Prop} {b : Bool} (h12 : σ[12]? = some (some (V.ref cl))) (h11 : σ[11]? = some (some (V.ref wl))) (hc : H cl = some (.lst [nv c0, nv c1])) (hw : H wl = some (.lst us)) (hb : b = true → c0 = 1 ∧ us = []) (k : ∀ H', Ex H H' → Q false H') :
    if b = true then tOr (tTest (tOp rNe (tOp (rIxL K) (tVar 12) (tC (.int 0))) (tC (.int 1)))) (tTest (tOp (rNeD K) (tVar 11) (tLst tNil))) σ H Q else Q false H := by
  cases b with
  | false => exact iteN rfl (k H (Ex.refl H))
  | true =>
    obtain ⟨rfl, rfl⟩ := hb rfl
    refine iteP rfl ⟨_, h12, cl, _, _, _, rfl, rfl, SqL.of hc, at_nat (j := 0) rfl rfl, rfl, _, rfl, iteN rfl ?_⟩
    refine ⟨_, h11, ?_⟩
    refine ⟨by show 0 ≤ sizeLine; decide, fun q hq => ⟨.list [], .list [], .lst (SqL.of ?_) .nil, .lst (SqL.of upd_same) .nil, ?_, ?_, _, rfl, ?_⟩⟩
    · exact Ex.new hq _ _ hw
    · exact pl_sh []
    · exact pl_sh []
    · have e : PyData.eqv (.list []) (.list []) = true := pl_eqv [] []
      rw [e]
      exact k _ (Ex.new hq)
theorem Over.small (h : Over c par m mw x p H lb ws c0 c1) (hn : m.least.n ≤ 6) (hk : par.k ≤ 4) : ws.length ≤ 40000 := by
  rcases h with ⟨A, s, sv, bv, lg, ch, hR, q1, q2, q3, q4⟩ | ⟨A, s, sv, bv, lg, ch, hbd, hle, q1, q2, q3, q4⟩ | ⟨q1, q2, q3, q4, _⟩
  · subst q1
    have := (bd_small (r_bd hR) hn hk).1
    omega
  · subst q1
    have := (bd_small hbd hn hk).1
    omega
  · subst q1
    exact Nat.zero_le _
theorem sum_len : ∀ ws : List (List Nat), (ws.map fun q => ((q.length : Nat) : Int)).sum = (((ws.map List.length).sum : Nat) : Int)
  | [] => rfl
  | a :: l => by
    rw [List.map_cons, List.sum_cons, List.map_cons, List.sum_cons, sum_len l]
    omega
theorem sumI {r : List V → Hp → VK → Prop} {tl : TE} {tr : TA} {Q : List V → Hp → Prop} (h : tl σ H fun y H2 => r [y] H2 fun x H3 => tr σ H3 fun xs H4 => Q (x :: xs) H4) : tCons (tCB r (tCons tl tNil)) tr σ H Q := h
theorem tNil_i' {σ : L2.St} {H : Hp} {Q : List V → Hp → Prop} (h : Q [] H) : tNil σ H Q := h
theorem Over.reportN {P : Program} {w : World} {K : PySem.W.Frag} {Q : VK} {E : XK} (h : Over c par m mw x p H lb ws c0 c1) (k : ∀ H' a, Ex H H' → H' a = some (.tup [nv ws.length, nv (ws.map List.length).sum, nv c0, nv c1]) → Q (.ref a) H') : sp_ChangedAsker_report P w K c (V.ref x :: ([] ++ [])) H Q E := h.report k
theorem tail_end {Q : VK} (ov : Over c par m mw x p H lb ws c0 c1) (h10 : σ[10]? = some (some (V.ref x))) (h12 : σ[12]? = some (some (V.ref cl))) (h11 : σ[11]? = some (some (V.ref wl))) (hw11 : (wipe σ [15])[11]? = some (some (V.ref wl)))
    (hwi : ∀ x, wipe ((wipe σ [15]).set 15 (some x)) [15] = wipe σ [15]) (h15 : ∀ x, ((wipe σ [15]).set 15 (some x))[15]? = some (some x))
    (hc : H cl = some (.lst [nv c0, nv c1])) (hw : H wl = some (.lst us)) (als : Als (fun v w => ∃ q, v = V.ref q ∧ H q = some (HO.lst (nvs w)) ∧ lb q = 50) us ws) (hz : ws.length ≤ 40000) (k : ∀ H', Q (.bl true) H') :
    tOp (rEqD K) (tMeth c.ChangedAsker "report" (sp_ChangedAsker_report P w K c) [] E0 (tVar 10) tNil) (tTup (tCons (tCB (rLenQ K) (tCons (tVar 11) tNil)) (tCons (tCB (rSum K) (tCons (tLc (iList K (tVar 11)) (gName 15) tYes (tCB (rLenQ K) (tCons (tVar 15) tNil)) [15]) tNil)) (tCons (tOp (rIxL K) (tVar 12) (tC (.int 0))) (tCons (tOp (rIxL K) (tVar 12) (tC (.int 1))) tNil))))) σ H Q := by
  obtain ⟨dxx, fsx, obx⟩ := ov.ob
  refine ⟨_, h10, x, dxx, _, rfl, obx, zip_none (by decide +kernel), ?_⟩
  refine tNil_i' (ov.reportN fun H1 a e1 ha => ?_)
  refine ⟨_, h11, wl, us, rfl, .inl (SqL.of (e1 _ _ hw)), ?_⟩
  have hsel : EvL (tLc (iList K (tVar 11)) (gName 15) tYes (tCB (rLenQ K) (tCons (tVar 15) tNil)) [15]) σ H1 (given us.length (fun _ => true) fun i => .int (((ws.getD i []).length : Nat) : Int)) := by
    refine el_lcL _ _ (ev_var h11) (SqL.of (e1 _ _ hw)) (by rw [als.len]; exact hz) hwi (fun i z H2 _ _ => fun H3 _ Q q => q H3 (Ex.refl H3)) fun i z H2 e2 hi _ => ?_
    have hil : i < ws.length := by rw [← als.len]; exact (List.getElem?_eq_some_iff.mp hi).1
    obtain ⟨q, ez, hq, _⟩ := als.at_ i z (ws[i]'hil) hi (List.getElem?_eq_getElem hil)
    subst ez
    have eg : ws.getD i [] = ws[i] := by rw [List.getD_eq_getElem?_getD, List.getElem?_eq_getElem hil]; rfl
    intro H3 e3 Q q2
    refine ⟨_, h15 _, q, _, rfl, .inl (SqL.of (e3 _ _ (e2 _ _ (e1 _ _ hq)))), ?_⟩
    rw [nvs_len, eg.symm]
    exact q2 H3 (Ex.refl H3)
  have eg : given us.length (fun _ => true) (fun i => V.int (((ws.getD i []).length : Nat) : Int)) = (ws.map fun q => ((q.length : Nat) : Int)).map V.int := by
    unfold given
    rw [als.len, List.filter_eq_self.mpr (fun _ _ => rfl), List.map_map]
    refine List.ext_getElem? fun i => ?_
    rw [List.getElem?_map, List.getElem?_map]
    by_cases hi : i < ws.length
    · rw [List.getElem?_range hi, List.getElem?_eq_getElem hi]
      simp [List.getD_eq_getElem?_getD, hi]
    · rw [List.getElem?_eq_none (by simpa using hi), List.getElem?_eq_none (by simpa using hi)]
      rfl
  rw [eg] at hsel
  refine sumI ?_
  refine hsel H1 (Ex.refl H1) _ fun D H2 hD e2 hD2 => ?_
  refine ⟨D, _, rfl, SqL.of hD2, ?_⟩
  refine ⟨_, h12, cl, _, _, _, rfl, rfl, SqL.of (e2 _ _ (e1 _ _ hc)), at_nat (j := 0) rfl rfl, ?_⟩
  refine ⟨_, h12, cl, _, _, _, rfl, rfl, SqL.of (e2 _ _ (e1 _ _ hc)), at_nat (j := 1) rfl rfl, ?_⟩
  refine ⟨by show 4 ≤ sizeLine; decide, fun t ht => ?_⟩
  have e3 : Ex H2 (upd H2 t _) := Ex.new (o := HO.tup [V.int (us.length : Nat), V.int (ws.map fun q => ((q.length : Nat) : Int)).sum, nv c0, nv c1]) ht
  refine ⟨pw [ws.length, (ws.map List.length).sum, c0, c1], pw [ws.length, (ws.map List.length).sum, c0, c1], dp_tw ⟨a, rfl, e3 _ _ (e2 _ _ ha)⟩, dp_tw ⟨t, rfl, ?_⟩, pw_sh _, pw_sh _, ?_⟩
  · rw [upd_same, sum_len, als.len]
    rfl
  · rw [pw_eqv, decide_eq_true rfl]
    exact k _
end
end MW
/-! ## P13 -/
namespace MW
open PySem PySem.Spec PyProof.Rows L2 Evl
section
variable {P : Program} {w : World} {K : PySem.W.Frag} {mg : Str → Option Value} {base : Heap} {c : Cs}
theorem tNil_i {σ : L2.St} {H : Hp} {Q : List V → Hp → Prop} (h : Q [] H) : tNil σ H Q := h
theorem Over.stepN {c : Cs} {par : Mai.Par} {m mw : Mai.Mach} {x p : Addr} {H : Hp} {lb : Addr → Nat} {ws : List (List Nat)} {c0 c1 : Nat} {P : Program} {w : World} {K : PySem.W.Frag} {Q : VK} {E : XK} (h : Over c par m mw x p H lb ws c0 c1) (hB : mw.least.n ≤ par.most) (k : ∀ v, Dp K H v (due par m) → Q v H) : sp_ChangedAsker_step P w K c (V.ref x :: ([] ++ [])) H Q E := h.step hB k
theorem ok_law {f : Addr} {fd : FuncData} (T : Tx K mg c) (D_law_row : Dfn P w K mg base CX0 1 "_law_row" p_law_row (sp_law_row P w K c)) (D_law_at : Dfn P w K mg base CX0 1 "_law_at" p_law_at (sp_law_at P w K c)) (D_law_machine : Dfn P w K mg base CX0 2 "_law_machine" p_law_machine (sp_law_machine P w K c)) (D_law_was : Dfn P w K mg base CX0 3 "_law_was" p_law_was (sp_law_was P w K c)) (D_law_least : Dfn P w K mg base CX0 2 "_law_least" p_law_least (sp_law_least P w K c)) (D_Honest_init : Mkd P w K mg base CX0 3 "Honest" c.Honest p_Honest_init (sp_Honest_init P w K c)) (D_ChangedAsker_init : Mkd P w K mg base CX0 9 "ChangedAsker" c.ChangedAsker p_ChangedAsker_init (sp_ChangedAsker_init P w K c)) (D_ChangedAsker_step : Mtd P w K mg base CX0 2 c.ChangedAsker "step" p_ChangedAsker_step (sp_ChangedAsker_step P w K c)) (D_ChangedAsker_report : Mtd P w K mg base CX0 2 c.ChangedAsker "report" p_ChangedAsker_report (sp_ChangedAsker_report P w K c)) (D_ChangedAsker_answer : Mtd P w K mg base CX0 8 c.ChangedAsker "answer" p_ChangedAsker_answer (sp_ChangedAsker_answer P w K c)) (D_law_output : Dfn P w K mg base CX0 2 "_law_output" p_law_output (sp_law_output P w K c)) (D_Honest_judge : Mtd P w K mg base CX0 62 c.Honest "judge" p_Honest_judge (sp_Honest_judge P w K c)) (D_ChangedAsker_accept : Mtd P w K mg base CX0 3 c.ChangedAsker "accept" p_ChangedAsker_accept (sp_ChangedAsker_accept P w K c)) (D_ChangedAsker_show : Mtd P w K mg base CX0 8 c.ChangedAsker "show" p_ChangedAsker_show (sp_ChangedAsker_show P w K c)) (D_law_bound : Dfn P w K mg base CX0 2 "_law_bound" p_law_bound (sp_law_bound P w K c)) (F : FnP K "law" "law" s_law f fd) : FnOk P w K mg base CX0 63 f fd p_law (sp_law P w K c) := by
  refine F.ok sc_law (fun vs H Q E h => by obtain ⟨_, _, rfl, _⟩ := h; rfl) (fun cdv A outer s H vs Q E hr h => ?_)
  refine ⟨_, PSs.nox (pss_cons (ps_set (i := 1) sc_law.nd rfl (Or.inr rfl) (pe_c D_law_row (hr.mono (by decide)) (pa_cons (pv 0) pa_nil)))
     (pss_cons (ps_set (i := 2) sc_law.nd rfl (Or.inl rfl) (pe_op op_add pe_int (pe_op op_modN (pe_callTy call_int1 (by rfl) T.b_int (by decide +kernel) (pa_cons (pe_c D_law_at (hr.mono (by decide)) (pa_cons (pv 1) (pa_cons pe_int pa_nil))) pa_nil)) pe_int)))
     (pss_cons (ps_set (i := 3) sc_law.nd rfl (Or.inl rfl) (pe_op op_add pe_int (pe_op op_modN (pe_callTy call_int1 (by rfl) T.b_int (by decide +kernel) (pa_cons (pe_c D_law_at (hr.mono (by decide)) (pa_cons (pv 1) (pa_cons pe_int pa_nil))) pa_nil)) pe_int)))
     (pss_cons (ps_set (i := 4) sc_law.nd rfl (Or.inl rfl) (pe_c D_law_machine (hr.mono (by decide)) (pa_cons (pv 1) (pa_cons pe_int (pa_cons (pv 2) (pa_cons (pv 3) (pa_cons (pe_op op_add pe_int (pe_op op_modN (pe_callTy call_int1 (by rfl) T.b_int (by decide +kernel) (pa_cons (pe_c D_law_at (hr.mono (by decide)) (pa_cons (pv 1) (pa_cons pe_int pa_nil))) pa_nil)) pe_int)) pa_nil)))))))
     (pss_cons (ps_set (i := 5) sc_law.nd rfl (Or.inl rfl) (pe_c D_law_was (hr.mono (by decide)) (pa_cons (pv 4) (pa_cons (pv 1) pa_nil))))
     (pss_cons (ps_set (i := 6) sc_law.nd rfl (Or.inl rfl) (pe_c D_law_least (hr.mono (by decide)) (pa_cons (pv 5) pa_nil)))
     (pss_cons (ps_set (i := 7) sc_law.nd rfl (Or.inl rfl) (pe_c D_law_least (hr.mono (by decide)) (pa_cons (pv 4) pa_nil)))
     (pss_cons (ps_set (i := 8) sc_law.nd rfl (Or.inl rfl) (pe_callB (call_max2 rfl) (by rfl) T.b_max (by decide +kernel) (pa_cons (pe_callB call_len_seq (by rfl) T.b_len PySem.boot_len (pa_cons (pe_ix ix_tup (pv 6) pe_int (fun _ _ => rfl)) pa_nil)) (pa_cons (pe_ix ix_list (pe_lst (pa_cons pe_int (pa_cons pe_int (pa_cons (pe_op op_add pe_int (pe_op op_modN (pe_callTy call_int1 (by rfl) T.b_int (by decide +kernel) (pa_cons (pe_c D_law_at (hr.mono (by decide)) (pa_cons (pv 1) (pa_cons pe_int pa_nil))) pa_nil)) pe_int)) pa_nil)))) (pe_op op_modN (pe_callTy call_int1 (by rfl) T.b_int (by decide +kernel) (pa_cons (pe_c D_law_at (hr.mono (by decide)) (pa_cons (pv 1) (pa_cons pe_int pa_nil))) pa_nil)) pe_int) (fun _ _ => rfl)) pa_nil))))
     (pss_cons (ps_set (i := 9) sc_law.nd rfl (Or.inl rfl) (pe_mk D_Honest_init (hr.mono (by decide)) (pa_cons (pv 4) (pa_cons (pe_lc (own := [("_law_k", 18)]) (te := (tCB rInt1 (tCons (tCall (sp_law_at P w K c) [] E0 (tCons (tVar 1) (tCons (tOp (rI0 fun i j => .int (i + j)) (tC (.int 100)) (tVar 18)) tNil))) tNil))) (by rfl) sc_law.nd (pi_range1 (by rfl) T.b_range (pa_cons (pe_op op_modN (pe_callTy call_int1 (by rfl) T.b_int (by decide +kernel) (pa_cons (pe_c D_law_at (hr.mono (by decide)) (pa_cons (pv 1) (pa_cons pe_int pa_nil))) pa_nil)) pe_int) pa_nil)) (blkOk_by (N := N_law) (sc := (defScope s_law)) (by decide +kernel)) (fun _ _ _ _ _ => (pg_name (i := 18) sc_law.nd rfl (Or.inl rfl))) (fun _ _ _ _ _ => pts_nil) (fun _ _ _ _ _ => (pe_callTy call_int1 (by rfl) T.b_int (by decide +kernel) (pa_cons (pe_c D_law_at (hr.mono (by decide)) (pa_cons (pv 1) (pa_cons (pe_op op_add pe_int (pv 18)) pa_nil))) pa_nil)))) pa_nil))))
     (pss_cons (ps_set (i := 10) sc_law.nd rfl (Or.inl rfl) (pe_mk D_ChangedAsker_init (hr.mono (by decide)) (pa_cons (pv 5) (pa_cons (pv 8) pa_nil))))
     (pss_cons (ps_if (PW.pt (pw_or (pt_cmpR (op_neD hr.units) (pe_m0 (pv 10) T.k_ChangedAsker D_ChangedAsker_step (hr.mono (by decide))) (pe_tup (pa_cons pe_str (pa_cons (pv 6) pa_nil))) (by rfl)) (pw_or1 (pt_cmpR (op_neD hr.units) (pe_m0 (pv 10) T.k_ChangedAsker D_ChangedAsker_report (hr.mono (by decide))) (pe_tup (pa_cons pe_int (pa_cons pe_int (pa_cons pe_int (pa_cons pe_int pa_nil))))) (by rfl)))))
     (pss_one (ps_ret pe_bl))
     pss_nil)
     (pss_cons (ps_set (i := 11) sc_law.nd rfl (Or.inl rfl) (pe_lst pa_nil))
     (pss_cons (ps_set (i := 12) sc_law.nd rfl (Or.inl rfl) (pe_lst (pa_cons pe_int (pa_cons pe_int pa_nil))))
     (pss_cons (ps_for PassesOwn.never rfl (pi_range1 (by rfl) T.b_range (pa_cons pe_int pa_nil)) (pg_name (i := 13) sc_law.nd rfl (Or.inl rfl))
     (pss_cons (ps_set (i := 14) sc_law.nd rfl (Or.inl rfl) (pe_m0 (pv 10) T.k_ChangedAsker D_ChangedAsker_step (hr.mono (by decide))))
     (pss_one (ps_if (pt_cmpR op_eq (pe_ix ix_tup (pv 14) pe_int (fun _ _ => rfl)) pe_str (by rfl))
     (pss_cons (ps_if (pt_cmpR (op_inD (hu65 hr)) (pe_ix ix_tup (pv 14) pe_int (fun _ _ => rfl)) (pv 11) (by rfl))
     (pss_one (ps_ret pe_bl))
     pss_nil)
     (pss_cons (ps_expr (pe_bm PySem.F.plainAttrs_list PySem.F.slot_list_append PySem.F.type_list_append mt_append (pv 11) (pa_cons (pe_callTy call_list_of (by rfl) T.b_list (by decide +kernel) (pa_cons (pe_ix ix_tup (pv 14) pe_int (fun _ _ => rfl)) pa_nil)) pa_nil)))
     (pss_one (ps_expr (pe_m (pv 10) T.k_ChangedAsker D_ChangedAsker_answer (hr.mono (by decide)) (pa_cons (pe_c D_law_output (hr.mono (by decide)) (pa_cons (pv 4) (pa_cons (pe_ix ix_tup (pv 14) pe_int (fun _ _ => rfl)) pa_nil))) pa_nil))))))
     (pss_one (ps_if (pt_cmpR op_eq (pe_ix ix_tup (pv 14) pe_int (fun _ _ => rfl)) pe_str (by rfl))
     (pss_cons (ps_asg (pe_op op_add (pe_ix ix_list (pv 12) pe_int (fun _ _ => rfl)) pe_int) (pg_sub (pv 12) pe_int set_list))
     (pss_cons (ps_set (i := 15) sc_law.nd rfl (Or.inl rfl) (pe_m (pv 9) T.k_Honest D_Honest_judge (hr.mono (by decide)) (pa_cons (pe_ix ix_tup (pv 14) pe_int (fun _ _ => rfl)) pa_nil)))
     (pss_one (ps_if (pt_cmpR op_isN (pv 15) pe_non (by rfl))
     (pss_one (ps_expr (pe_m0 (pv 10) T.k_ChangedAsker D_ChangedAsker_accept (hr.mono (by decide)))))
     (pss_cons (ps_asg (pe_callB (call_max2 rfl) (by rfl) T.b_max (by decide +kernel) (pa_cons (pe_ix ix_list (pv 12) pe_int (fun _ _ => rfl)) (pa_cons (pe_callB call_len_seq (by rfl) T.b_len PySem.boot_len (pa_cons (pv 15) pa_nil)) pa_nil))) (pg_sub (pv 12) pe_int set_list))
     (pss_cons (ps_expr (pe_m (pv 10) T.k_ChangedAsker D_ChangedAsker_show (hr.mono (by decide)) (pa_cons (pv 15) pa_nil)))
     (pss_one (ps_expr (pe_bm PySem.F.plainAttrs_list PySem.F.slot_list_append PySem.F.type_list_append mt_append (pv 15) (pa_cons pe_int pa_nil))))))))))
     (pss_one (ps_break))))))))
     (pss_cons (ps_set (i := 16) sc_law.nd rfl (Or.inl rfl) (pe_tup (pa_cons pe_str (pa_cons (pv 7) pa_nil))))
     (pss_cut (ps_if (pt_cmpR op_gt (pe_callB call_len_seq (by rfl) T.b_len PySem.boot_len (pa_cons (pe_ix ix_tup (pv 7) pe_int (fun _ _ => rfl)) pa_nil)) (pv 8) (by rfl))
     (pss_one (ps_set (i := 16) sc_law.nd rfl (Or.inl rfl) (pe_tup (pa_cons pe_str pa_nil))))
     pss_nil)
     (pss_cons (ps_set (i := 17) sc_law.nd rfl (Or.inl rfl) (pe_callB (call_min2 rfl) (by rfl) T.b_min (by decide +kernel) (pa_cons (pe_callB call_len_seq (by rfl) T.b_len PySem.boot_len (pa_cons (pe_ix ix_tup (pv 7) pe_int (fun _ _ => rfl)) pa_nil)) (pa_cons (pe_op op_add (pv 8) pe_int) pa_nil))))
     (pss_cons (ps_if (PW.pt (pw_or (pt_cmpR (op_neD hr.units) (pe_m0 (pv 10) T.k_ChangedAsker D_ChangedAsker_step (hr.mono (by decide))) (pv 16) (by rfl)) (pw_or (pt_cmpR op_gt (pe_ix ix_list (pv 12) pe_int (fun _ _ => rfl)) (pe_op op_add (pv 17) pe_int) (by rfl)) (pw_or1 (pt_cmpR op_gt (pe_callB call_len_seq (by rfl) T.b_len PySem.boot_len (pa_cons (pv 11) pa_nil)) (pe_c D_law_bound (hr.mono (by decide)) (pa_cons (pv 17) (pa_cons (pv 2) (pa_cons (pe_ix ix_list (pv 12) pe_int (fun _ _ => rfl)) pa_nil)))) (by rfl))))))
     (pss_one (ps_ret pe_bl))
     pss_nil)
     (pss_cons (ps_if (PW.pt (pw_and (pt_cmpR (op_eqD hr.units) (pv 6) (pv 7) (by rfl)) (pw_and1 (PW.pt (pw_or (pt_cmpR op_ne (pe_ix ix_list (pv 12) pe_int (fun _ _ => rfl)) pe_int (by rfl)) (pw_or1 (pt_cmpR (op_neD hr.units) (pv 11) (pe_lst pa_nil) (by rfl))))))))
     (pss_one (ps_ret pe_bl))
     pss_nil)
     (pss_one (ps_ret (pe_cmpR (op_eqD hr.units) (pe_m0 (pv 10) T.k_ChangedAsker D_ChangedAsker_report (hr.mono (by decide))) (pe_tup (pa_cons (pe_callB call_len_seq (by rfl) T.b_len PySem.boot_len (pa_cons (pv 11) pa_nil)) (pa_cons (pe_callB (cr_sum rfl) (by rfl) T.b_sum (by decide +kernel) (pa_cons (pe_lc (own := [("_law_word", 15)]) (te := (tCB (rLenQ K) (tCons (tVar 15) tNil))) (by rfl) sc_law.nd (pi_list (pv 11)) (blkOk_by (N := N_law) (sc := (defScope s_law)) (by decide +kernel)) (fun _ _ _ _ _ => (pg_name (i := 15) sc_law.nd rfl (Or.inl rfl))) (fun _ _ _ _ _ => pts_nil) (fun _ _ _ _ _ => (pe_callB call_len_seq (by rfl) T.b_len PySem.boot_len (pa_cons (pv 15) pa_nil)))) pa_nil)) (pa_cons (pe_ix ix_list (pv 12) pe_int (fun _ _ => rfl)) (pa_cons (pe_ix ix_list (pv 12) pe_int (fun _ _ => rfl)) pa_nil))))) (by rfl))))))))))))))))))))))), ?_⟩
  obtain ⟨a, ns, rfl, ha, hns, kq⟩ := h
  refine ⟨_, rfl, a, ns, rfl, ha, hns, fun H1 r row e1 _ hr1 => ?_⟩
  have m3 : ∀ n : Nat, ((n : Nat) : Int).fmod 3 = ((n % 3 : Nat) : Int) := fun n => fmod_nat n 3 (by omega)
  have m4 : ∀ n : Nat, ((n : Nat) : Int).fmod 4 = ((n % 4 : Nat) : Int) := fun n => fmod_nat n 4 (by omega)
  have m6 : ∀ n : Nat, ((n : Nat) : Int).fmod 6 = ((n % 6 : Nat) : Int) := fun n => fmod_nat n 6 (by omega)
  refine ⟨_, rfl, r, 0, row, rfl, hr1, .inl ⟨_, rfl, _, _, rfl, rfl, (show (3 : Int) ≠ 0 by decide), _, _, rfl, rfl, ?_⟩⟩
  have z0 : V.int (1 + ((row.getD 0 0 : Nat) : Int).fmod 3) = nv (1 + row.getD 0 0 % 3) := congrArg V.int (by rw [m3]; omega)
  show gName 2 (V.int (1 + ((row.getD 0 0 : Nat) : Int).fmod 3)) _ _ _
  rw [z0]
  have k1 : 1 ≤ 1 + row.getD 0 0 % 3 := by omega
  have k4 : 1 + row.getD 0 0 % 3 ≤ 3 := by omega
  generalize 1 + row.getD 0 0 % 3 = kk at *
  refine ⟨_, rfl, r, 1, row, rfl, hr1, .inl ⟨_, rfl, _, _, rfl, rfl, (show (4 : Int) ≠ 0 by decide), _, _, rfl, rfl, ?_⟩⟩
  have z1 : V.int (1 + ((row.getD 1 0 : Nat) : Int).fmod 4) = nv (1 + row.getD 1 0 % 4) := congrArg V.int (by rw [m4]; omega)
  show gName 3 (V.int (1 + ((row.getD 1 0 : Nat) : Int).fmod 4)) _ _ _
  rw [z1]
  have o1 : 1 ≤ 1 + row.getD 1 0 % 4 := by omega
  have o4 : 1 + row.getD 1 0 % 4 ≤ 4 := by omega
  generalize 1 + row.getD 1 0 % 4 = oo at *
  have z2 : V.int (1 + ((row.getD 2 0 : Nat) : Int).fmod 6) = nv (1 + row.getD 2 0 % 6) := congrArg V.int (by rw [m6]; omega)
  refine ⟨_, rfl, _, rfl, _, rfl, _, rfl, r, 2, row, rfl, hr1, .inl ⟨_, rfl, _, _, rfl, rfl, (show (6 : Int) ≠ 0 by decide), _, _, rfl, rfl, r, 10, kk, oo, 1 + row.getD 2 0 % 6, row, ?_, hr1, k1, by omega, o1, by omega, by omega, by omega, fun H2 v4 m e2 hm wf ek eo en => ?_⟩⟩
  · show [V.ref r, nv 10, nv kk, nv oo, V.int (1 + ((row.getD 2 0 : Nat) : Int).fmod 6)] = _
    rw [z2]
  have hn6 : m.n ≤ 6 := by omega
  clear en
  subst ek
  subst eo
  have hr2 := e2 r _ hr1
  refine ⟨_, rfl, _, rfl, v4, m, r, row, rfl, hm, wf, hr2, hn6, fun H3 v5 mw e3 hmw wfw ekw eow hnw => ?_⟩
  have hr3 := e3 r _ hr2
  refine ⟨_, rfl, v5, mw, rfl, hmw.ma, wfw, fun v6 H4 e4 hB => ?_⟩
  have hm4 := (hm.keep (tk_ex e3)).keep (tk_ex e4)
  refine ⟨_, rfl, v4, m, rfl, hm4.ma, wf, fun v7 H5 e5 hL => ?_⟩
  have hm5 := hm4.keep (tk_ex e5)
  have hw5 := (hmw.keep (tk_ex e4)).keep (tk_ex e5)
  have hB5 := hB.keep (tk_ex e5)
  have hr5 := e5 r _ (e4 r _ hr3)
  have wB := Mai.Mach.least_wf wfw
  have wL := Mai.Mach.least_wf wf
  obtain ⟨a6, b6, d6, rs6, rfl, ha6, hb6, hrs6, hd6⟩ := id hB5
  have z6 : V.int (1 + ((row.getD 6 0 : Nat) : Int).fmod 6) = nv (1 + row.getD 6 0 % 6) := congrArg V.int (by rw [m6]; omega)
  refine ⟨_, rfl, a6, _, _, _, rfl, rfl, SqT.of ha6, at_nat (j := 3) rfl rfl, d6, _, rfl, .inr (sqT_rd hd6), _, rfl, r, 6, row, rfl, hr5, .inl ⟨_, rfl, _, _, rfl, rfl, (show (6 : Int) ≠ 0 by decide), _, _, rfl, rfl, sz3, fun ml hml => ?_⟩⟩
  have hr6 := (Ex.new (o := HO.lst [V.int 30, V.int 30, V.int (1 + ((row.getD 6 0 : Nat) : Int).fmod 6)]) hml) r _ hr5
  have e56 : Ex H5 (upd H5 ml (.lst [V.int 30, V.int 30, V.int (1 + ((row.getD 6 0 : Nat) : Int).fmod 6)])) := Ex.new hml
  refine ⟨_, rfl, r, 7, row, rfl, hr6, .inl ⟨_, rfl, _, _, rfl, rfl, (show (3 : Int) ≠ 0 by decide), ml, _, _, nv ([30, 30, 1 + row.getD 6 0 % 6].getD (row.getD 7 0 % 3) 0), rfl, rfl, SqL.of upd_same, at_nat (j := row.getD 7 0 % 3) (m3 _) ?_, _, _, rfl, ?_⟩⟩
  · have : row.getD 7 0 % 3 < 3 := Nat.mod_lt _ (by omega)
    show [V.int 30, V.int 30, V.int (1 + ((row.getD 6 0 : Nat) : Int).fmod 6)][row.getD 7 0 % 3]? = _
    rw [z6]
    exact nvs_get (w := [30, 30, 1 + row.getD 6 0 % 6]) (getD_some this)
  have q1 : 1 ≤ [30, 30, 1 + row.getD 6 0 % 6].getD (row.getD 7 0 % 3) 0 ∧ [30, 30, 1 + row.getD 6 0 % 6].getD (row.getD 7 0 % 3) 0 ≤ 30 := by
    have h3 : row.getD 7 0 % 3 < 3 := Nat.mod_lt _ (by omega)
    have h4 : row.getD 7 0 % 3 = 0 ∨ row.getD 7 0 % 3 = 1 ∨ row.getD 7 0 % 3 = 2 := by omega
    rcases h4 with h4 | h4 | h4 <;> rw [h4]
    · show 1 ≤ 30 ∧ 30 ≤ 30
      omega
    · show 1 ≤ 30 ∧ 30 ≤ 30
      omega
    · show 1 ≤ 1 + row.getD 6 0 % 6 ∧ 1 + row.getD 6 0 % 6 ≤ 30
      omega
  generalize [30, 30, 1 + row.getD 6 0 % 6].getD (row.getD 7 0 % 3) 0 = mm at *
  have emost : V.int (if ((mm : Nat) : Int) > (((nvs mw.least.ou).length : Nat) : Int) then ((mm : Nat) : Int) else (((nvs mw.least.ou).length : Nat) : Int)) = nv (max mw.least.n mm) := by
    rw [nvs_len]
    show V.int _ = V.int (((max mw.least.ou.length mm : Nat) : Nat) : Int)
    refine congrArg V.int ?_
    split <;> omega
  show gName 8 (V.int (if ((mm : Nat) : Int) > (((nvs mw.least.ou).length : Nat) : Int) then ((mm : Nat) : Int) else (((nvs mw.least.ou).length : Nat) : Int))) _ _ _
  rw [emost]
  have hB30 : mw.least.n ≤ 30 := wB.n30
  have x1 : 1 ≤ max mw.least.n mm := by omega
  have x30 : max mw.least.n mm ≤ 30 := by omega
  have xB : mw.least.n ≤ max mw.least.n mm := by omega
  generalize max mw.least.n mm = most at *
  clear emost
  clear q1
  have hm6 := hm5.keep (tk_ex e56)
  have hw6 := hw5.keep (tk_ex e56)
  have hB6 := hB5.keep (tk_ex e56)
  have hL6 := hL.keep (tk_ex e56)
  generalize upd H5 ml (.lst [V.int 30, V.int 30, V.int (1 + ((row.getD 6 0 : Nat) : Int).fmod 6)]) = H6 at *
  refine ⟨_, rfl, _, rfl, r, 3, row, rfl, hr6, .inl ⟨_, rfl, _, _, rfl, rfl, (show (3 : Int) ≠ 0 by decide), _, rfl, by have q := m3 (row.getD 3 0); omega, by have q := m3 (row.getD 3 0); omega, fun D hD => lc_w hD (walk_range.mono (fun _ _ => True.intro) fun _ _ _ _ _ _ y => y) (fun _ => rfl) (fun j v _ => v = nv (row.getD (100 + j) 0)) (fun _ _ _ _ _ h _ _ => h) (fun _ _ _ _ h _ => h) ?_ (by show (((row.getD 3 0 : Nat) : Int).fmod 3).toNat < _; rw [m3]; omega) ?_⟩⟩
  · rintro j x H7 H7' hj e7 _ ⟨rfl, rfl⟩ Q' kk
    exact ⟨_, rfl, _, rfl, _, _, rfl, rfl, r, 100 + j, row, congrArg (fun z => [V.ref r, V.int z]) (show (100 : Int) + (0 + (j : Int)) = ((100 + j : Nat) : Int) by omega), e7 r _ hr6, .inl ⟨_, rfl, kk _ _ (Ex.refl _) (by intro z; cases z) rfl⟩⟩
  intro H7 acc e7 hacc hal hap
  have hal' : acc.length = row.getD 3 0 % 3 := by
    have h1 : acc.length = (((row.getD 3 0 : Nat) : Int).fmod 3).toNat := hal
    rw [m3] at h1
    omega
  have eacc : acc = nvs ((List.range (row.getD 3 0 % 3)).map fun j => row.getD (100 + j) 0) := by
    unfold nvs
    rw [List.map_map]
    refine vals_each (by rw [hal', List.length_range]) fun i v x h1 h2 => ?_
    have : x = i := by
      rw [List.getElem?_range (by have := (List.getElem?_eq_some_iff.mp h2).1; rw [List.length_range] at this; exact this)] at h2
      exact (Option.some.inj h2).symm
    rw [this]
    exact hap i v h1
  have hpl : ((List.range (row.getD 3 0 % 3)).map fun j => row.getD (100 + j) 0).length ≤ 100 := by
    rw [List.length_map, List.length_range]
    omega
  generalize (List.range (row.getD 3 0 % 3)).map (fun j => row.getD (100 + j) 0) = ps at *
  subst eacc
  intro bx bdx nbx nbdx nbne
  have em := make_ex (o := .ins c.Honest bdx []) nbx nbdx nbne
  have e67 := e7.trans em
  refine ⟨bx, bdx, D, v4, m, ps, rfl, upd_same, (hm6.keep (tk_ex e67)).ma, wf, em D _ hacc, fun H8 pk hbox hpk b8 => ⟨rfl, ?_⟩⟩
  have e78 := ex_but em b8 nbx
  have e68 := e7.trans e78
  have hm8 := hm6.keep (tk_ex e68)
  have hw8 := hw6.keep (tk_ex e68)
  have hB8 := hB6.keep (tk_ex e68)
  have hL8 := hL6.keep (tk_ex e68)
  clear hm6 hw6 hB6 hL6 hm5 hw5 hB5 hL hm4 hm hmw hB hr6 hr5 hr3 hr2 hr1 ha6 hb6 hrs6 hd6
  refine ⟨_, rfl, _, rfl, fun x dx nx ndx ne => ?_⟩
  have em9 := make_ex (o := .ins c.ChangedAsker dx []) nx ndx ne
  obtain ⟨dxb, mvb, ub, obb, hMb, hpkb⟩ := id hbox.ob
  have nbp : pk ≠ bx := ne_of hpkb obb fun z => by cases z
  obtain ⟨lb0, lbo0, lb0b, lb0p⟩ : ∃ lb0 : Addr → Nat, Lb H8 lb0 ∧ lb0 bx = 33 ∧ lb0 pk = 34 := by
    refine ⟨fun a => if a = bx then 33 else if a = pk then 34 else 0, ⟨fun a u t h => ?_, fun a h => ?_⟩, if_pos rfl, by show (if pk = bx then 33 else if pk = pk then 34 else 0) = 34; rw [if_neg nbp, if_pos rfl]⟩
    · show (if a = bx then 33 else if a = pk then 34 else 0) = 0
      by_cases q1 : a = bx
      · rw [q1, obb] at h
        cases h
        exact False.elim t
      · by_cases q2 : a = pk
        · rw [q2, hpkb] at h
          cases h
          exact False.elim t
        · rw [if_neg q1, if_neg q2]
    · show (if a = bx then 33 else if a = pk then 34 else 0) = 0
      by_cases q1 : a = bx
      · rw [q1, obb] at h
        cases h
      · by_cases q2 : a = pk
        · rw [q2, hpkb] at h
          cases h
        · rw [if_neg q1, if_neg q2]
  obtain ⟨lb1, st1, lx1⟩ := init_ex (o := .ins c.ChangedAsker dx []) 30 lbo0 em9 nx upd_same fun z => z
  have ctx : Mai.Ctx ⟨m.k, m.o, most, m.out 0⟩ m := ⟨wf, rfl, rfl, fun _ => rfl, x1, x30⟩
  generalize epar : (⟨m.k, m.o, most, m.out 0⟩ : Mai.Par) = par at ctx
  have pk' : par.k = m.k := ctx.k
  have pmost : par.most = most := by rw [← epar]
  have pout : ∀ w, par.out w = m.out 0 w := ctx.out
  refine ⟨x, dx, v5, par, m, mw, lb1, by rw [pmost]; rfl, upd_same, st1.ok, lx1, hw8.keep (tk_ex em9), wfw, pk'.trans ekw.symm, ctx.o.trans eow.symm, ctx, by rw [pmost]; exact xB, fun H9 lb9 p A9 s9 sv y9 bv fa st2 ch9 hfa hbv hR hws hc3 hnr => ⟨rfl, ?_⟩⟩
  have st9 := st1.trans st2
  have hbox9 : BoxAt c H9 bx pk m ps := ⟨⟨dxb, mvb, ub, st9.at obb lb0b, hMb.keep st9.tk, st9.at hpkb lb0p⟩⟩
  have lbb := st9.lab obb lb0b
  have lbp := st9.lab hpkb lb0p
  have hm9 := hm8.keep st9.tk
  have hB9 := hB8.keep st9.tk
  have hL9 := hL8.keep st9.tk
  have lbo9 := st9.ok
  obtain ⟨dx9, ob9⟩ := id ch9.ob
  refine ⟨_, rfl, x, dx9, _, rfl, ob9, zip_none (by decide +kernel), x, p, par, lb9, A9, s9, sv, y9, bv, .ref fa, 0, rfl, ch9, .inl ⟨⟨fa, rfl⟩, ?_⟩⟩
  refine ⟨_, rfl, sz2, fun t1 ht1 => ⟨px "propose" mw.least, px "propose" mw.least, dp_px ((Ex.new ht1) fa _ hfa) (hbv.keep (tk_ex (Ex.new ht1))), dp_px upd_same (hB9.keep (tk_ex (Ex.new ht1))), px_sh _ _ str_p, px_sh _ _ str_p, _, rfl, iteN (by rw [px_self]; rfl) ?_⟩⟩
  have e9t : Ex H9 _ := Ex.new (o := HO.tup [V.str (Str.ofString "propose"), V.ref a6]) ht1
  refine ⟨_, rfl, x, dx9, _, rfl, e9t x _ ob9, zip_none (by decide +kernel), x, p, par, lb9, A9, s9, sv, y9, bv, .ref fa, 0, rfl, ch9.keepB (St.ex lbo9 e9t).toB, .inl ⟨⟨fa, rfl⟩, fun H10 q e10 hq => ⟨sz4, fun t2 ht2 => ⟨pw [0, 0, 1, 0], pw [0, 0, 1, 0], dp_tw ⟨q, rfl, (Ex.new ht2) q _ hq⟩, dp_tw ⟨t2, rfl, upd_same⟩, pw_sh _, pw_sh _, _, rfl, iteN (by rw [pw_eqv]; rfl) ?_⟩⟩⟩⟩
  have e9u : Ex H9 _ := (e9t.trans e10).trans (Ex.new (o := HO.tup [V.int 0, V.int 0, V.int 1, V.int 0]) ht2)
  generalize upd H10 t2 (HO.tup [V.int 0, V.int 0, V.int 1, V.int 0]) = H11 at *
  have st11 := St.ex lbo9 e9u
  refine ⟨by decide, fun wl hwl => ⟨sz2, fun cl hcl => ?_⟩⟩
  obtain ⟨lb12, st12, lw12, hwl12⟩ := init_new (o := HO.lst []) 31 st11.ok hwl fun z => z
  obtain ⟨lb13, st13, lc13, hcl13⟩ := init_new (o := HO.lst [V.int 0, V.int 0]) 32 st12.ok hcl fun z => z
  have hwl13 := st13.at hwl12 lw12
  have lw13 := st13.lab hwl12 lw12
  generalize upd (upd H11 wl (.lst [])) cl (.lst [V.int 0, V.int 0]) = H13 at *
  have st := (st11.trans st12).trans st13
  have la : LawAt c m mw v4 (.ref a6) v7 bx pk wl cl ps H13 lb13 [] 0 0 := ⟨st.ok, hm9.keep st.tk, hB9.keep st.tk, hL9.keep st.tk, ⟨dxb, mvb, ub, (st9.trans st).at obb lb0b, hMb.keep (st9.trans st).tk⟩, (st9.trans st).at hpkb lb0p, (st9.trans st).lab obb lb0b, (st9.trans st).lab hpkb lb0p, ⟨[], hwl13, Als.nil⟩, lw13, hcl13, lc13⟩
  have plx : Play c par m mw x p H13 lb13 [] 0 0 0 := .inl ⟨rfl, rfl, rfl, rfl, A9, s9, sv, y9, bv, fa, ch9.keepB st.toB, st.tk.at hfa, hbv.keep st.tk, hR, hws, hc3.1, hc3.2, hnr⟩
  clear ch9 hfa hbv hm9 hB9 hL9 hm8 hw8 hB8 hL8 hbox9 hbox hB30
  have eqBL : Mai.Mach.Eqv m 0 mw.least 0 → m.least = mw.least := fun q =>
    Mai.Mach.least_unique wf wfw ekw.symm eow.symm (q.trans (show m.k = mw.least.k from ekw.symm) (Mai.Mach.least_alike wfw))
  have neBL : ∀ {wd : List Nat}, Mai.okw m.k wd → m.out 0 wd ≠ mw.least.out 0 wd → mw.least ≠ m.least := fun {wd} ho hd z => hd (by rw [z]; exact ((Mai.Mach.least_alike wf) wd ho).symm)
  refine ⟨_, rfl, by decide, by decide, for_rangeB (fun i σ H => ∃ lb ws c0 c1 s13 s14 s15, σ = [some (V.ref a), some (V.ref r), some (nv m.k), some (nv m.o), some v4, some v5, some (V.ref a6), some v7, some (nv most), some (V.ref bx), some (V.ref x), some (V.ref wl), some (V.ref cl), s13, s14, s15, none, none, none] ∧ LawAt c m mw v4 (.ref a6) v7 bx pk wl cl ps H lb ws c0 c1 ∧ (Play c par m mw x p H lb ws c0 c1 i ∨ Over c par m mw x p H lb ws c0 c1))
    (fun σ H => ∃ lb ws c0 c1 s13 s14 s15, σ = [some (V.ref a), some (V.ref r), some (nv m.k), some (nv m.o), some v4, some v5, some (V.ref a6), some v7, some (nv most), some (V.ref bx), some (V.ref x), some (V.ref wl), some (V.ref cl), s13, s14, s15, none, none, none] ∧ LawAt c m mw v4 (.ref a6) v7 bx pk wl cl ps H lb ws c0 c1 ∧ Over c par m mw x p H lb ws c0 c1)
    ⟨lb13, [], 0, 0, none, none, none, rfl, la, .inl plx⟩ ?_ ?_ ?_⟩
  · rintro i σ H14 hi ⟨lb, ws, c0, c1, s13, s14, s15, rfl, la, h⟩ B hB
    have hBn7 : mw.least.n ≤ 7 := by
      rw [Mai.Mach.least_n wfw]
      exact Nat.le_trans (Mai.Mach.met_le wfw) hnw
    obtain ⟨dxb, mvb, ub, obb, hMb⟩ := la.box
    rcases h with (⟨rfl, rfl, rfl, rfl, A, s, sv, y, bv, fa, ch, hfa, hbv, hR, hws, hc3, hc2, hnr⟩ | ⟨A, s, sv, y, bv, lg, ch, hR, hw, h0, hc1, hi2, hnr, hne⟩) | h
    · -- the first proposal
      obtain ⟨dxx, obx⟩ := id ch.ob
      have hct := la.ct
      refine ⟨_, rfl, x, dxx, _, rfl, obx, zip_none (by decide +kernel), x, p, par, lb, A, s, sv, y, bv, .ref fa, 0, rfl, ch, .inl ⟨⟨fa, rfl⟩, ?_⟩⟩
      refine ⟨_, rfl, fa, _, _, _, rfl, rfl, SqT.of hfa, at_nat (j := 0) rfl rfl, rfl, _, rfl, iteN (d_f fun z => absurd (V.str.inj z) (by decide +kernel)) ?_⟩
      refine ⟨_, rfl, fa, _, _, _, rfl, rfl, SqT.of hfa, at_nat (j := 0) rfl rfl, rfl, _, rfl, iteP (d_t rfl) ?_⟩
      refine ⟨_, rfl, cl, _, _, _, rfl, rfl, SqL.of hct, at_nat (j := 0) rfl rfl, _, _, rfl, rfl, _, rfl, cl, _, 0, 0, rfl, rfl, hct, rfl, ?_⟩
      generalize hG : upd H14 cl _ = H15
      have hct15 : H15 cl = some (.lst [nv 1, nv 0]) := by rw [← hG, upd_same]; rfl
      have st15 : St [32] lb lb H14 H15 := by rw [← hG]; exact St.upd la.ok hct la.lc (by decide) fun z => z
      clear hG
      have la15 := la.setct st15 hct15
      have ch15 := ch.keepB (st15.mono (by decide) (by decide))
      have hfa15 := st15.tk.at hfa
      have hbv15 := hbv.keep st15.tk
      have obx15 := st15.at obx ch.lx
      obtain ⟨dxb5, mvb5, ub5, obb5, hMb5⟩ := la15.box
      refine ⟨_, rfl, bx, dxb5, _, rfl, obb5, zip_none (by decide +kernel), _, rfl, fa, _, _, _, rfl, rfl, SqT.of hfa15, at_nat (j := 1) rfl rfl, bx, pk, bv, m, mw.least, ps, rfl, ⟨⟨dxb5, mvb5, ub5, obb5, hMb5, la15.hpk⟩⟩, hpl, hbv15, wf, wB, ekw.symm, eow.symm, hn6, hBn7, fun hEq H16 e16 => ?_, fun H16 r2 wd hbox16 t16 b16 hr20 hr2 hok hlen hdiff => ?_⟩
      · have st16 := St.ex st15.ok e16
        have ch16 := ch15.keepB st16.toB
        refine ⟨_, rfl, rfl, _, rfl, iteP (d_t rfl) ⟨_, rfl, x, dxx, _, rfl, e16 x _ obx15, zip_none (by decide +kernel), x, p, par, lb, A, s, sv, y, bv, .ref fa, 0, rfl, st16.ok, ch16, by omega, .inl ⟨⟨fa, rfl, e16 fa _ hfa15⟩, fun H17 fa' st17 ch17 hfa' => ?_⟩⟩⟩
        exact ⟨lb, [], 1, 0, _, _, _, rfl, (la15.keep st16).keep st17, .inr (.inr (.inr ⟨rfl, rfl, rfl, (eqBL hEq).symm, A, s, sv, y, bv, fa', ch17, hfa', (hbv15.keep st16.tk).keep st17.tk⟩))⟩
      · obtain ⟨lb16, st16, lr2⟩ := box_st st15.ok la15.lbx hbox16 b16 hr20 hr2
        have la16 := la15.setbox st16 hbox16
        have ch16 := ch15.keepB (st16.mono (by decide) (by decide))
        have hct16 := la16.ct
        refine ⟨_, rfl, rfl, _, rfl, iteN (d_f fun z => by cases z) ?_⟩
        refine ⟨_, rfl, cl, _, _, _, rfl, rfl, SqL.of hct16, at_nat (j := 1) rfl rfl, _, rfl, r2, _, rfl, .inl (SqL.of hr2), _, _, rfl, _, rfl, cl, _, 1, 1, rfl, rfl, hct16, rfl, ?_⟩
        have emax : V.int (if ((nvs wd).length : Int) > (0 : Nat) then ((nvs wd).length : Int) else (0 : Nat)) = nv (max 0 wd.length) := by
          rw [nvs_len]
          refine congrArg V.int ?_
          split <;> omega
        generalize hG : upd H16 cl _ = H17
        have hct17 : H17 cl = some (.lst [nv 1, nv (max 0 wd.length)]) := by rw [← hG, upd_same, ← emax]; rfl
        have st17 : St [32] lb16 lb16 H16 H17 := by rw [← hG]; exact St.upd la16.ok hct16 la16.lc (by decide) fun z => z
        clear hG
        have la17 := la16.setct st17 hct17
        have ch17 := ch16.keepB (st17.mono (by decide) (by decide))
        have st57 := st16.trans st17
        have hr17 := st17.at hr2 lr2
        have lr17 := st17.lab hr2 lr2
        refine ⟨_, rfl, x, dxx, _, rfl, (st57.at obx15 ch15.lx), zip_none (by decide +kernel), _, rfl, x, p, .ref r2, par, m, lb16, A, s, sv, y, bv, .ref fa, 0, wd, rfl, st17.ok, ch17, by omega, ⟨r2, rfl, hr17, by rw [lr17]; decide⟩, by rw [pk']; exact hok, hlen, .inl ⟨⟨fa, rfl, st57.tk.at hfa15⟩, ⟨mw.least, hbv15.keep st57.tk, ekw.trans pk'.symm⟩, fun H18 st18 ch18 => ?_⟩⟩
        have hr18 := st18.at hr17 lr17
        have lr18 := st18.lab hr17 lr17
        refine ⟨_, rfl, .inl ⟨rfl, _, SqL.of hr18⟩, r2, _, _, rfl, rfl, hr18, szl (by rw [nvs_len]; omega), ?_⟩
        have st19 : St [40] lb16 lb16 H18 _ := St.upd (u := .lst (nvs wd ++ [V.int 0])) st18.ok hr18 lr18 (by decide) fun z => z
        exact ⟨lb16, [], 1, max 0 wd.length, _, _, _, rfl, (la17.keep st18).keep st19, .inl (.inr ⟨A, s, sv, y, bv, wd.length, ch18.keepB (st19.mono (by decide) (by decide)), hR, hws, by omega, by rw [hc3], by simp, by omega, neBL hok hdiff⟩)⟩
    · obtain ⟨dxx, obx⟩ := id ch.ob
      have l6 : m.least.n ≤ 6 := by
        rw [Mai.Mach.least_n wf]
        exact Nat.le_trans (Mai.Mach.met_le wf) hn6
      have hsm := bd_small (r_bd hR) l6 (by omega)
      cases y with
      | ask wd0 =>
        obtain ⟨bd, hnw, hok, hlen, hW⟩ := id hR
        refine ⟨_, rfl, x, dxx, _, rfl, obx, zip_none (by decide +kernel), x, p, par, lb, A, s, sv, .ask wd0, bv, .non, lg, rfl, ch, .inr ⟨rfl, fun wd1 z H15 sa l e15 hsa0 hl0 hsa hl => ?_, fun z => absurd rfl (z _)⟩⟩
        cases z
        have st15 := St.ex la.ok e15
        have la15 := la.keep st15
        have ch15 := ch.keepB st15.toB
        obtain ⟨us, hwl, als⟩ := la15.wd
        refine ⟨_, rfl, sa, _, _, _, rfl, rfl, SqT.of hsa, at_nat (j := 0) rfl rfl, rfl, _, rfl, iteP (d_t rfl) ?_⟩
        refine ⟨_, rfl, sa, _, _, _, rfl, rfl, SqT.of hsa, at_nat (j := 1) rfl rfl, _, rfl, pl wd0, ws.map pl, dp_lw ⟨l, rfl, hl⟩, .lst (SqL.of hwl) (dpAll_als (fun _ _ q => dp_lw q) (als.mono fun v w _ ⟨q, e, h1, _⟩ => ⟨q, e, h1⟩)), pl_sh _, list_sh pl_lay (fun x => Nat.le_trans (pl_depth x) (by decide)) _, _, rfl, iteN (by rw [any_eqv pl_eqv]; exact d_f (by rw [← hw]; exact hnw)) ?_⟩
        refine ⟨_, rfl, .inl ⟨rfl, _, SqL.of hwl⟩, _, rfl, sa, _, _, _, rfl, rfl, SqT.of hsa, at_nat (j := 1) rfl rfl, l, _, rfl, .inl (SqL.of hl), fun l2 hl2 => ?_⟩
        obtain ⟨lb16, st16, ll16, hl16⟩ := init_new (o := HO.lst (nvs wd0)) 50 st15.ok hl2 fun z => z
        have hla16 := (Ex.new (o := HO.lst (nvs wd0)) hl2) l _ hl
        have hsa16 := st16.tk.at hsa
        have la16 := la15.keep st16
        have ch16 := ch15.keepB st16.toB
        generalize upd H15 l2 (.lst (nvs wd0)) = H16 at *
        obtain ⟨us6, hwl6, als6⟩ := la16.wd
        have eus : us6 = us := by
          have := st16.at hwl la15.lw
          rw [hwl6] at this
          exact HO.lst.inj (Option.some.inj this)
        subst eus
        refine ⟨wl, us6, _, rfl, rfl, hwl6, szl (by rw [als6.len, ← hw]; omega), ?_⟩
        have nlw : l ≠ wl := fun z => by
          obtain ⟨us0, hw0, _⟩ := la.wd
          rw [z, hw0] at hl0
          cases hl0
        generalize hG : upd H16 wl _ = H17
        have st17 : St [31] lb16 lb16 H16 H17 := by rw [← hG]; exact St.upd la16.ok hwl6 la16.lw (by decide) fun z => z
        have hl17 : H17 l = some (.lst (nvs wd0)) := by rw [← hG, upd_ne nlw]; exact hla16
        have hwl17 : H17 wl = some (.lst (us6 ++ [V.ref l2])) := by rw [← hG, upd_same]
        clear hG
        have la17 : LawAt c m mw v4 (.ref a6) v7 bx pk wl cl ps H17 lb16 (ws ++ [wd0]) c0 c1 := la16.setwd st17 ⟨_, hwl17, (als6.mono fun v w _ ⟨q, e, h1, h2⟩ => ⟨q, e, st17.at h1 h2, h2⟩).snoc ⟨l2, rfl, st17.at hl16 ll16, ll16⟩⟩
        have ch17 := ch16.keepB (st17.mono (by decide) (by decide))
        have st57 := st16.trans st17
        refine ⟨_, rfl, x, dxx, _, rfl, ((st15.trans st16).trans st17).at obx ch.lx, zip_none (by decide +kernel), _, rfl, _, rfl, sa, _, _, _, rfl, rfl, SqT.of (st57.tk.at hsa), at_nat (j := 1) rfl rfl, v4, .ref l, m, wd0, rfl, la17.m4.ma, wf, ⟨l, rfl, hl17⟩, by rw [← pk']; exact hok, x, p, par, m, lb16, A, s, sv, wd0, bv, lg, by rw [pout]; rfl, la17.ok, ch17, ctx, hR, by omega, fun H18 lb18 A' sv' s' y' st18 ch18 hR' hws' hc3' hnr' => ?_⟩
        exact ⟨lb18, ws ++ [wd0], c0, c1, _, _, _, rfl, la17.keep st18, .inl (.inr ⟨A', s', sv', y', bv, lg, ch18, hR', by rw [hws', hw], by have := hc3'.2; have h0' : c0 + 0 = s.c2 + 1 := h0; omega, by rw [hc3'.1, hc1], by rw [List.length_append]; show i + 1 ≤ ws.length + 1 + c0; omega, by omega, hne⟩)⟩
      | propose pm' =>
        obtain ⟨sa, sx, rfl, hsa, hsx⟩ := id ch.sv
        obtain ⟨wp, kp, op, np⟩ := r_prop ctx hn6 hR
        have hct := la.ct
        refine ⟨_, rfl, x, dxx, _, rfl, obx, zip_none (by decide +kernel), x, p, par, lb, A, s, _, .propose pm', bv, .non, lg, rfl, ch, .inr ⟨rfl, (fun wd z => nomatch z), fun _ => ?_⟩⟩
        refine ⟨_, rfl, sa, _, _, _, rfl, rfl, SqT.of hsa, at_nat (j := 0) rfl rfl, rfl, _, rfl, iteN (d_f fun z => absurd (V.str.inj z) (by decide +kernel)) ?_⟩
        refine ⟨_, rfl, sa, _, _, _, rfl, rfl, SqT.of hsa, at_nat (j := 0) rfl rfl, rfl, _, rfl, iteP (d_t rfl) ?_⟩
        refine ⟨_, rfl, cl, _, _, _, rfl, rfl, SqL.of hct, at_nat (j := 0) rfl rfl, _, _, rfl, rfl, _, rfl, cl, _, 0, 0, rfl, rfl, hct, rfl, ?_⟩
        generalize hG : upd H14 cl _ = H15
        have hct15 : H15 cl = some (.lst [nv (c0 + 1), nv c1]) := by rw [← hG, upd_same]; rfl
        have st15 : St [32] lb lb H14 H15 := by rw [← hG]; exact St.upd la.ok hct la.lc (by decide) fun z => z
        clear hG
        have la15 := la.setct st15 hct15
        have ch15 := ch.keepB (st15.mono (by decide) (by decide))
        have hsa15 := st15.tk.at hsa
        have hbv15 := hsx.keep st15.tk
        have obx15 := st15.at obx ch.lx
        obtain ⟨dxb5, mvb5, ub5, obb5, hMb5⟩ := la15.box
        refine ⟨_, rfl, bx, dxb5, _, rfl, obb5, zip_none (by decide +kernel), _, rfl, sa, _, _, _, rfl, rfl, SqT.of hsa15, at_nat (j := 1) rfl rfl, bx, pk, sx, m, pm', ps, rfl, ⟨⟨dxb5, mvb5, ub5, obb5, hMb5, la15.hpk⟩⟩, hpl, hbv15, wf, wp, kp.symm, op.symm, hn6, Nat.le_succ_of_le np, fun hEq H16 e16 => ?_, fun H16 r2 wd hbox16 t16 b16 hr20 hr2 hok hlen hdiff => ?_⟩
        · have st16 := St.ex st15.ok e16
          have ch16 := ch15.keepB st16.toB
          refine ⟨_, rfl, rfl, _, rfl, iteP (d_t rfl) ⟨_, rfl, x, dxx, _, rfl, e16 x _ obx15, zip_none (by decide +kernel), x, p, par, lb, A, s, _, .propose pm', bv, .non, lg, rfl, st16.ok, ch16, by omega, .inr ⟨rfl, pm', rfl, fun H17 lb17 A' sv' st17 ch17 hnr' => ?_⟩⟩⟩
          obtain ⟨epl, hle⟩ := Mai.accepted ctx hR.2.1 hR.2.2.1 hR.2.2.2.1 hEq
          rw [epl] at ch17
          exact ⟨lb17, ws, c0 + 1, c1, _, _, _, rfl, (la15.keep st16).keep st17, .inr (.inr (.inl ⟨A', s, sv', bv, lg, ch17, hR.1, hle, hw, by have h0' : c0 + 1 = s.c2 + 1 := h0; omega, hc1, hne⟩))⟩
        · obtain ⟨lb16, st16, lr2⟩ := box_st st15.ok la15.lbx hbox16 b16 hr20 hr2
          have la16 := la15.setbox st16 hbox16
          have ch16 := ch15.keepB (st16.mono (by decide) (by decide))
          have hct16 := la16.ct
          refine ⟨_, rfl, rfl, _, rfl, iteN (d_f fun z => by cases z) ?_⟩
          refine ⟨_, rfl, cl, _, _, _, rfl, rfl, SqL.of hct16, at_nat (j := 1) rfl rfl, _, rfl, r2, _, rfl, .inl (SqL.of hr2), _, _, rfl, _, rfl, cl, _, 1, 1, rfl, rfl, hct16, rfl, ?_⟩
          have emax : V.int (if ((nvs wd).length : Int) > (c1 : Nat) then ((nvs wd).length : Int) else (c1 : Nat)) = nv (max c1 wd.length) := by
            rw [nvs_len]
            refine congrArg V.int ?_
            split <;> omega
          generalize hG : upd H16 cl _ = H17
          have hct17 : H17 cl = some (.lst [nv (c0 + 1), nv (max c1 wd.length)]) := by rw [← hG, upd_same, ← emax]; rfl
          have st17 : St [32] lb16 lb16 H16 H17 := by rw [← hG]; exact St.upd la16.ok hct16 la16.lc (by decide) fun z => z
          clear hG
          have la17 := la16.setct st17 hct17
          have ch17 := ch16.keepB (st17.mono (by decide) (by decide))
          have st57 := st16.trans st17
          have hr17 := st17.at hr2 lr2
          have lr17 := st17.lab hr2 lr2
          refine ⟨_, rfl, x, dxx, _, rfl, (st57.at obx15 ch15.lx), zip_none (by decide +kernel), _, rfl, x, p, .ref r2, par, m, lb16, A, s, _, .propose pm', bv, .non, lg, wd, rfl, st17.ok, ch17, by omega, ⟨r2, rfl, hr17, by rw [lr17]; decide⟩, by rw [pk']; exact hok, hlen, .inr ⟨rfl, pm', rfl, ctx, hR, by rw [pout]; intro z; refine hdiff (z.trans ?_); rw [hR.2.2.1]; exact ((Mai.Mach.least_alike hR.2.1) wd (by rw [pk'.symm] at hok; exact hok)).symm, fun H18 lb18 A' sv' s' y' st18 ch18 hR' hws' hc3' hnr' => ?_⟩⟩
          have hr18 := st18.at hr17 lr17
          have lr18 := st18.lab hr17 lr17
          refine ⟨_, rfl, .inl ⟨rfl, _, SqL.of hr18⟩, r2, _, _, rfl, rfl, hr18, szl (by rw [nvs_len]; omega), ?_⟩
          have st19 : St [40] lb18 lb18 H18 _ := St.upd (u := .lst (nvs wd ++ [V.int 0])) st18.ok hr18 lr18 (by decide) fun z => z
          exact ⟨lb18, ws, c0 + 1, max c1 wd.length, _, _, _, rfl, (la17.keep st18).keep st19, .inl (.inr ⟨A', s', sv', y', bv, lg, ch18.keepB (st19.mono (by decide) (by decide)), hR', by rw [hws', hw], by have := hc3'.2; have h0' : c0 + 1 = s.c2 + 1 := h0; omega, by rw [hc3'.1, hc1]; omega, by omega, by omega, hne⟩)⟩
      | done m' => exact False.elim hR
      | full =>
        obtain ⟨sa, rfl, hsa⟩ := id ch.sv
        refine ⟨_, rfl, x, dxx, _, rfl, obx, zip_none (by decide +kernel), x, p, par, lb, A, s, _, .full, bv, .non, lg, rfl, ch, .inr ⟨rfl, (fun wd z => nomatch z), fun _ => ?_⟩⟩
        refine ⟨_, rfl, sa, _, _, _, rfl, rfl, SqT.of hsa, at_nat (j := 0) rfl rfl, rfl, _, rfl, iteN (d_f fun z => absurd (V.str.inj z) (by decide +kernel)) ?_⟩
        refine ⟨_, rfl, sa, _, _, _, rfl, rfl, SqT.of hsa, at_nat (j := 0) rfl rfl, rfl, _, rfl, iteN (d_f fun z => absurd (V.str.inj z) (by decide +kernel)) ?_⟩
        exact hB _ _ ⟨lb, ws, c0, c1, _, _, _, rfl, la, .inl ⟨A, s, _, bv, lg, ch, hR, hw, h0, hc1, hne⟩⟩
    · -- over
      rcases id h with ⟨A, s, sv, bv, lg, ch, hR, q1, q2, q3, q4⟩ | ⟨A, s, sv, bv, lg, ch, hbd, hle, q1, q2, q3, q4⟩ | ⟨q1, q2, q3, q4, A, s, sv, y, bv, fa, ch, hfa, hbv⟩
      · obtain ⟨dxx, obx⟩ := id ch.ob
        obtain ⟨sa, rfl, hsa⟩ := id ch.sv
        refine ⟨_, rfl, x, dxx, _, rfl, obx, zip_none (by decide +kernel), x, p, par, lb, A, s, _, .full, bv, .non, lg, rfl, ch, .inr ⟨rfl, (fun wd z => nomatch z), fun _ => ?_⟩⟩
        refine ⟨_, rfl, sa, _, _, _, rfl, rfl, SqT.of hsa, at_nat (j := 0) rfl rfl, rfl, _, rfl, iteN (d_f fun z => absurd (V.str.inj z) (by decide +kernel)) ?_⟩
        refine ⟨_, rfl, sa, _, _, _, rfl, rfl, SqT.of hsa, at_nat (j := 0) rfl rfl, rfl, _, rfl, iteN (d_f fun z => absurd (V.str.inj z) (by decide +kernel)) ?_⟩
        exact hB _ _ ⟨lb, ws, c0, c1, _, _, _, rfl, la, h⟩
      · obtain ⟨dxx, obx⟩ := id ch.ob
        obtain ⟨sa, sx, rfl, hsa, hsx⟩ := id ch.sv
        refine ⟨_, rfl, x, dxx, _, rfl, obx, zip_none (by decide +kernel), x, p, par, lb, A, s, _, .done m.least, bv, .non, lg, rfl, ch, .inr ⟨rfl, (fun wd z => nomatch z), fun _ => ?_⟩⟩
        refine ⟨_, rfl, sa, _, _, _, rfl, rfl, SqT.of hsa, at_nat (j := 0) rfl rfl, rfl, _, rfl, iteN (d_f fun z => absurd (V.str.inj z) (by decide +kernel)) ?_⟩
        refine ⟨_, rfl, sa, _, _, _, rfl, rfl, SqT.of hsa, at_nat (j := 0) rfl rfl, rfl, _, rfl, iteN (d_f fun z => absurd (V.str.inj z) (by decide +kernel)) ?_⟩
        exact hB _ _ ⟨lb, ws, c0, c1, _, _, _, rfl, la, h⟩
      · obtain ⟨dxx, obx⟩ := id ch.ob
        refine ⟨_, rfl, x, dxx, _, rfl, obx, zip_none (by decide +kernel), x, p, par, lb, A, s, sv, y, bv, .ref fa, 0, rfl, ch, .inl ⟨⟨fa, rfl⟩, ?_⟩⟩
        refine ⟨_, rfl, fa, _, _, _, rfl, rfl, SqT.of hfa, at_nat (j := 0) rfl rfl, rfl, _, rfl, iteN (d_f fun z => absurd (V.str.inj z) (by decide +kernel)) ?_⟩
        refine ⟨_, rfl, fa, _, _, _, rfl, rfl, SqT.of hfa, at_nat (j := 0) rfl rfl, rfl, _, rfl, iteN (d_f fun z => absurd (V.str.inj z) (by decide +kernel)) ?_⟩
        exact hB _ _ ⟨lb, ws, c0, c1, _, _, _, rfl, la, h⟩
  · rintro σ H14 ⟨lb, ws, c0, c1, s13, s14, s15, rfl, la, h⟩
    refine ⟨lb, ws, c0, c1, s13, s14, s15, rfl, la, ?_⟩
    rcases h with (⟨_, _, _, z, _⟩ | ⟨A, s, sv, y, bv, lg, ch, hR, hw, h0, _, hi, _, _⟩) | h
    · cases z
    · have l6 : m.least.n ≤ 6 := by
        rw [Mai.Mach.least_n wf]
        exact Nat.le_trans (Mai.Mach.met_le wf) hn6
      have := bd_small (r_bd hR) l6 (by omega)
      rw [hw] at this
      have e5 : ((5000 : Int)).toNat = 5000 := rfl
      omega
    · exact h
  · rintro σ H14 ⟨lb, ws, c0, c1, s13, s14, s15, rfl, la, h⟩
    obtain ⟨a7, b7, d7, rs7, rfl, ha7, hb7, hrs7, hd7⟩ := id la.m7
    refine ⟨_, rfl, sz2, fun du hdu => ?_⟩
    have e15 : Ex H14 _ := Ex.new (o := HO.tup [V.str (Str.ofString "done"), V.ref a7]) hdu
    have hdu15 : upd H14 du (.tup [V.str (Str.ofString "done"), V.ref a7]) du = some (.tup [V.str (Str.ofString "done"), V.ref a7]) := upd_same
    generalize upd H14 du (.tup [V.str (Str.ofString "done"), V.ref a7]) = H15 at *
    have st15 := St.ex la.ok e15
    replace la := la.keep st15
    replace h := h.keep st15.toB
    have ha7' := e15 a7 _ ha7
    have hd7' := (tk_ex e15).rd hd7
    refine ⟨fun σ' H' => ∃ lb' d16, σ' = [some (V.ref a), some (V.ref r), some (nv m.k), some (nv m.o), some v4, some v5, some (V.ref a6), some (V.ref a7), some (nv most), some (V.ref bx), some (V.ref x), some (V.ref wl), some (V.ref cl), s13, s14, s15, some (V.ref d16), none, none] ∧ LawAt c m mw v4 (.ref a6) (.ref a7) bx pk wl cl ps H' lb' ws c0 c1 ∧ Over c par m mw x p H' lb' ws c0 c1 ∧ Dp K H' (.ref d16) (due par m), ?_, ?_⟩
    · refine ⟨_, rfl, a7, _, _, _, rfl, rfl, SqT.of ha7', at_nat (j := 3) rfl rfl, d7, _, rfl, .inr (sqT_rd hd7'), _, rfl, _, _, rfl, rfl, _, rfl, ?_⟩
      rw [nvs_len]
      by_cases cm : most < m.least.n
      · refine iteP (decide_eq_true (by have : most < m.least.ou.length := cm; omega)) ⟨sz1, fun t ht => ?_⟩
        have e16 : Ex H15 _ := Ex.new (o := HO.tup [V.str (Str.ofString "full")]) ht
        have st16 := St.ex la.ok e16
        refine ⟨lb, t, rfl, la.keep st16, h.keep st16.toB, ?_⟩
        unfold due
        rw [pmost, if_pos cm]
        exact dp_pf upd_same
      · refine iteN (decide_eq_false (by have : ¬ most < m.least.ou.length := cm; omega)) ⟨lb, du, rfl, la, h, ?_⟩
        unfold due
        rw [pmost, if_neg cm]
        exact dp_px hdu15 la.m7
    · rintro σ' H16 ⟨lb', d16, rfl, la, ov, hdue⟩
      clear ha7' hd7' ha7 hb7 hrs7 hd7
      obtain ⟨a7', b7, d7, rs7, e7', ha7, hb7, hrs7, hd7⟩ := id la.m7
      cases e7'
      obtain ⟨f1, f2, f3⟩ := ov.counts
      rw [pmost] at f1 f2
      rw [pk'] at f2
      have hB' : mw.least.n ≤ par.most := by rw [pmost]; exact xB
      refine ⟨_, rfl, a7, _, _, _, rfl, rfl, SqT.of ha7, at_nat (j := 3) rfl rfl, d7, _, rfl, .inr (sqT_rd hd7), _, rfl, _, _, rfl, rfl, _, _, rfl, ?_⟩
      have emin : V.int (if ((most : Nat) : Int) + 1 < (((nvs m.least.ou).length : Nat) : Int) then ((most : Nat) : Int) + 1 else (((nvs m.least.ou).length : Nat) : Int)) = nv (min m.least.n (most + 1)) := by
        rw [nvs_len]
        show V.int _ = V.int (((min m.least.ou.length (most + 1) : Nat) : Nat) : Int)
        refine congrArg V.int ?_
        split <;> omega
      show gName 17 (V.int (if ((most : Nat) : Int) + 1 < (((nvs m.least.ou).length : Nat) : Int) then ((most : Nat) : Int) + 1 else (((nvs m.least.ou).length : Nat) : Int))) _ _ _
      rw [emin]
      have en : min m.least.n (most + 1) ≤ 31 := by omega
      generalize min m.least.n (most + 1) = nn at *
      obtain ⟨dxx, fsx, obx⟩ := ov.ob
      obtain ⟨us, hwl, als⟩ := la.wd
      refine ⟨_, rfl, x, dxx, _, rfl, obx, zip_none (by decide +kernel), ?_⟩
      refine tNil_i (ov.stepN hB' fun v hv => ?_)
      refine ⟨_, rfl, due par m, due par m, hv, hdue, due_sh _ _, due_sh _ _, _, rfl, iteN (by rw [due_self]; rfl) ?_⟩
      refine ⟨_, rfl, cl, _, _, _, rfl, rfl, SqL.of la.ct, at_nat (j := 0) rfl rfl, _, rfl, _, _, rfl, rfl, _, _, rfl, rfl, _, rfl, iteN (decide_eq_false (by omega)) ?_⟩
      refine ⟨_, rfl, wl, _, rfl, .inl (SqL.of hwl), _, rfl, _, rfl, _, rfl, cl, _, _, _, rfl, rfl, SqL.of la.ct, at_nat (j := 1) rfl rfl, nn, m.k, c1, rfl, by omega, by omega, _, _, rfl, rfl, _, rfl, iteN (decide_eq_false (by rw [als.len]; omega)) ?_⟩
      refine ⟨_, rfl, _, rfl, pm mw.least, pm m.least, dp_ma la.m6, dp_ma la.m7, pm_sh _, pm_sh _, _, rfl, ?_⟩
      rw [pm_eqv]
      refine andor_end (cl := cl) (wl := wl) (c0 := c0) (c1 := c1) rfl rfl la.ct hwl (fun z => ?_) fun H17 e17 => ?_
      · obtain ⟨q1, q2⟩ := f3 (of_decide_eq_true z)
        refine ⟨q1, List.eq_nil_of_length_eq_zero ?_⟩
        rw [als.len, q2]
        rfl
      · have st17 := St.ex la.ok e17
        have la17 := la.keep st17
        obtain ⟨us7, hwl7, als7⟩ := la17.wd
        exact tail_end (wl := wl) (cl := cl) (ov.keep st17.toB) rfl rfl rfl rfl (fun _ => rfl) (fun _ => rfl) la17.ct hwl7 als7 (ov.small (by rw [Mai.Mach.least_n wf]; exact Nat.le_trans (Mai.Mach.met_le wf) hn6) (by rw [pk']; omega)) kq
end
end MW
set_option maxHeartbeats 0
/-! ## H1 -/
namespace Hd
open PySem PySem.Spec PyProof.Rows L2 MW
def d_Halving_init : He.DefD := ⟨("Halving", some "__init__"), "__init__", "Halving.__init__", defArgs s_Halving_init, defBody s_Halving_init, defScope s_Halving_init, [], []⟩
def d_Halving_place : He.DefD := ⟨("Halving", some "place"), "place", "Halving.place", defArgs s_Halving_place, defBody s_Halving_place, defScope s_Halving_place, [], []⟩
def d_Halving_tell : He.DefD := ⟨("Halving", some "tell"), "tell", "Halving.tell", defArgs s_Halving_tell, defBody s_Halving_tell, defScope s_Halving_tell, [], []⟩
def d_Halving_found : He.DefD := ⟨("Halving", some "found"), "found", "Halving.found", defArgs s_Halving_found, defBody s_Halving_found, defScope s_Halving_found, [], []⟩
def d_refined : He.DefD := ⟨("refined", none), "refined", "refined", defArgs s_refined, defBody s_refined, defScope s_refined, [], []⟩
def d_classes : He.DefD := ⟨("classes", none), "classes", "classes", defArgs s_classes, defBody s_classes, defScope s_classes, [], []⟩
def d_met_states : He.DefD := ⟨("met_states", none), "met_states", "met_states", defArgs s_met_states, defBody s_met_states, defScope s_met_states, [], []⟩
def d_least : He.DefD := ⟨("least", none), "least", "least", defArgs s_least, defBody s_least, defScope s_least, [], []⟩
def d_is_machine : He.DefD := ⟨("is_machine", none), "is_machine", "is_machine", defArgs s_is_machine, defBody s_is_machine, defScope s_is_machine, [], []⟩
def d_check_machine : He.DefD := ⟨("check_machine", none), "check_machine", "check_machine", defArgs s_check_machine, defBody s_check_machine, defScope s_check_machine, [], []⟩
def d_Table_init : He.DefD := ⟨("Table", some "__init__"), "__init__", "Table.__init__", defArgs s_Table_init, defBody s_Table_init, defScope s_Table_init, [], []⟩
def d_Table_state_words : He.DefD := ⟨("Table", some "state_words"), "state_words", "Table.state_words", defArgs s_Table_state_words, defBody s_Table_state_words, defScope s_Table_state_words, [], []⟩
def d_Table_further_rows : He.DefD := ⟨("Table", some "further_rows"), "further_rows", "Table.further_rows", defArgs s_Table_further_rows, defBody s_Table_further_rows, defScope s_Table_further_rows, [], []⟩
def d_Table_all_wanted : He.DefD := ⟨("Table", some "all_wanted"), "all_wanted", "Table.all_wanted", defArgs s_Table_all_wanted, defBody s_Table_all_wanted, defScope s_Table_all_wanted, [], []⟩
def d_Table_outputs_of : He.DefD := ⟨("Table", some "outputs_of"), "outputs_of", "Table.outputs_of", defArgs s_Table_outputs_of, defBody s_Table_outputs_of, defScope s_Table_outputs_of, [], []⟩
def d_Table_numbers : He.DefD := ⟨("Table", some "numbers"), "numbers", "Table.numbers", defArgs s_Table_numbers, defBody s_Table_numbers, defScope s_Table_numbers, [], []⟩
def d_Table_extend : He.DefD := ⟨("Table", some "extend"), "extend", "Table.extend", defArgs s_Table_extend, defBody s_Table_extend, defScope s_Table_extend, [], []⟩
def d_Table_add_column : He.DefD := ⟨("Table", some "add_column"), "add_column", "Table.add_column", defArgs s_Table_add_column, defBody s_Table_add_column, defScope s_Table_add_column, [], []⟩
def d_Table_machine : He.DefD := ⟨("Table", some "machine"), "machine", "Table.machine", defArgs s_Table_machine, defBody s_Table_machine, defScope s_Table_machine, [], []⟩
def d_Table_mistake : He.DefD := ⟨("Table", some "mistake"), "mistake", "Table.mistake", defArgs s_Table_mistake, defBody s_Table_mistake, defScope s_Table_mistake, [], []⟩
def d_is_word_asker : He.DefD := ⟨("is_word_asker", none), "is_word", "is_word", defArgs s_is_word_asker, defBody s_is_word_asker, defScope s_is_word_asker, [], []⟩
def d_digits_of : He.DefD := ⟨("digits_of", none), "digits_of", "digits_of", defArgs s_digits_of, defBody s_digits_of, defScope s_digits_of, [], []⟩
def d_read_known : He.DefD := ⟨("read_known", none), "read_known", "read_known", defArgs s_read_known, defBody s_read_known, defScope s_read_known, [], []⟩
def d_Asker_init : He.DefD := ⟨("Asker", some "__init__"), "__init__", "Asker.__init__", defArgs s_Asker_init, defBody s_Asker_init, defScope s_Asker_init, [], []⟩
def d_Asker_step : He.DefD := ⟨("Asker", some "step"), "step", "Asker.step", defArgs s_Asker_step, defBody s_Asker_step, defScope s_Asker_step, [], []⟩
def d_Asker_need : He.DefD := ⟨("Asker", some "need"), "need", "Asker.need", defArgs s_Asker_need, defBody s_Asker_need, defScope s_Asker_need, [], []⟩
def d_Asker_answer : He.DefD := ⟨("Asker", some "answer"), "answer", "Asker.answer", defArgs s_Asker_answer, defBody s_Asker_answer, defScope s_Asker_answer, [], []⟩
def d_Asker_accept : He.DefD := ⟨("Asker", some "accept"), "accept", "Asker.accept", defArgs s_Asker_accept, defBody s_Asker_accept, defScope s_Asker_accept, [], []⟩
def d_Asker_show : He.DefD := ⟨("Asker", some "show"), "show", "Asker.show", defArgs s_Asker_show, defBody s_Asker_show, defScope s_Asker_show, [], []⟩
def d_Asker_report : He.DefD := ⟨("Asker", some "report"), "report", "Asker.report", defArgs s_Asker_report, defBody s_Asker_report, defScope s_Asker_report, [], []⟩
def d_Asker__next_step : He.DefD := ⟨("Asker", some "_next_step"), "_next_step", "Asker._next_step", defArgs s_Asker__next_step, defBody s_Asker__next_step, defScope s_Asker__next_step, [], []⟩
def d_Asker__fill : He.DefD := ⟨("Asker", some "_fill"), "_fill", "Asker._fill", defArgs s_Asker__fill, defBody s_Asker__fill, defScope s_Asker__fill, [], []⟩
def d_Asker__judge : He.DefD := ⟨("Asker", some "_judge"), "_judge", "Asker._judge", defArgs s_Asker__judge, defBody s_Asker__judge, defScope s_Asker__judge, [], []⟩
def d_Asker__path : He.DefD := ⟨("Asker", some "_path"), "_path", "Asker._path", defArgs s_Asker__path, defBody s_Asker__path, defScope s_Asker__path, [], []⟩
def d_Asker__begin : He.DefD := ⟨("Asker", some "_begin"), "_begin", "Asker._begin", defArgs s_Asker__begin, defBody s_Asker__begin, defScope s_Asker__begin, [], []⟩
def d_Asker__look : He.DefD := ⟨("Asker", some "_look"), "_look", "Asker._look", defArgs s_Asker__look, defBody s_Asker__look, defScope s_Asker__look, [], []⟩
def d_ChangedAsker_init : He.DefD := ⟨("ChangedAsker", some "__init__"), "__init__", "ChangedAsker.__init__", defArgs s_ChangedAsker_init, defBody s_ChangedAsker_init, defScope s_ChangedAsker_init, [], []⟩
def d_ChangedAsker_step : He.DefD := ⟨("ChangedAsker", some "step"), "step", "ChangedAsker.step", defArgs s_ChangedAsker_step, defBody s_ChangedAsker_step, defScope s_ChangedAsker_step, [], []⟩
def d_ChangedAsker_answer : He.DefD := ⟨("ChangedAsker", some "answer"), "answer", "ChangedAsker.answer", defArgs s_ChangedAsker_answer, defBody s_ChangedAsker_answer, defScope s_ChangedAsker_answer, [], []⟩
def d_ChangedAsker_accept : He.DefD := ⟨("ChangedAsker", some "accept"), "accept", "ChangedAsker.accept", defArgs s_ChangedAsker_accept, defBody s_ChangedAsker_accept, defScope s_ChangedAsker_accept, [], []⟩
def d_ChangedAsker_show : He.DefD := ⟨("ChangedAsker", some "show"), "show", "ChangedAsker.show", defArgs s_ChangedAsker_show, defBody s_ChangedAsker_show, defScope s_ChangedAsker_show, [], []⟩
def d_ChangedAsker_report : He.DefD := ⟨("ChangedAsker", some "report"), "report", "ChangedAsker.report", defArgs s_ChangedAsker_report, defBody s_ChangedAsker_report, defScope s_ChangedAsker_report, [], []⟩
def d_search : He.DefD := ⟨("search", none), "search", "search", defArgs s_search, defBody s_search, defScope s_search, [], []⟩
def d_check_kind : He.DefD := ⟨("check_kind", none), "check_kind", "check_kind", defArgs s_check_kind, defBody s_check_kind, defScope s_check_kind, [], []⟩
def d_first_difference : He.DefD := ⟨("first_difference", none), "first_difference", "first_difference", defArgs s_first_difference, defBody s_first_difference, defScope s_first_difference, [], []⟩
def d_Choices_init : He.DefD := ⟨("Choices", some "__init__"), "__init__", "Choices.__init__", defArgs s_Choices_init, defBody s_Choices_init, defScope s_Choices_init, [], []⟩
def d_Choices__extend : He.DefD := ⟨("Choices", some "_extend"), "_extend", "Choices._extend", defArgs s_Choices__extend, defBody s_Choices__extend, defScope s_Choices__extend, [], []⟩
def d_Choices_words : He.DefD := ⟨("Choices", some "words"), "words", "Choices.words", defArgs s_Choices_words, defBody s_Choices_words, defScope s_Choices_words, [], []⟩
def d_Choices__find : He.DefD := ⟨("Choices", some "_find"), "_find", "Choices._find", defArgs s_Choices__find, defBody s_Choices__find, defScope s_Choices__find, [], []⟩
def d_Honest_init : He.DefD := ⟨("Honest", some "__init__"), "__init__", "Honest.__init__", defArgs s_Honest_init, defBody s_Honest_init, defScope s_Honest_init, [], []⟩
def d_Honest__next_pick : He.DefD := ⟨("Honest", some "_next_pick"), "_next_pick", "Honest._next_pick", defArgs s_Honest__next_pick, defBody s_Honest__next_pick, defScope s_Honest__next_pick, [], []⟩
def d_Honest_judge : He.DefD := ⟨("Honest", some "judge"), "judge", "Honest.judge", defArgs s_Honest_judge, defBody s_Honest_judge, defScope s_Honest_judge, [], []⟩
def d_law_row : He.DefD := ⟨("_law_row", none), "_law_row", "_law_row", defArgs s_law_row, defBody s_law_row, defScope s_law_row, [], []⟩
def d_law_at : He.DefD := ⟨("_law_at", none), "_law_at", "_law_at", defArgs s_law_at, defBody s_law_at, defScope s_law_at, [], []⟩
def d_law_machine : He.DefD := ⟨("_law_machine", none), "_law_machine", "_law_machine", defArgs s_law_machine, defBody s_law_machine, defScope s_law_machine, [], []⟩
def d_law_state : He.DefD := ⟨("_law_state", none), "_law_state", "_law_state", defArgs s_law_state, defBody s_law_state, defScope s_law_state, [], []⟩
def d_law_output : He.DefD := ⟨("_law_output", none), "_law_output", "_law_output", defArgs s_law_output, defBody s_law_output, defScope s_law_output, [], []⟩
def d_law_classes : He.DefD := ⟨("_law_classes", none), "_law_classes", "_law_classes", defArgs s_law_classes, defBody s_law_classes, defScope s_law_classes, [], []⟩
def d_law_least : He.DefD := ⟨("_law_least", none), "_law_least", "_law_least", defArgs s_law_least, defBody s_law_least, defScope s_law_least, [], []⟩
def d_law_digits : He.DefD := ⟨("_law_digits", none), "_law_digits", "_law_digits", defArgs s_law_digits, defBody s_law_digits, defScope s_law_digits, [], []⟩
def d_law_bound : He.DefD := ⟨("_law_bound", none), "_law_bound", "_law_bound", defArgs s_law_bound, defBody s_law_bound, defScope s_law_bound, [], []⟩
def d_law_was : He.DefD := ⟨("_law_was", none), "_law_was", "_law_was", defArgs s_law_was, defBody s_law_was, defScope s_law_was, [], []⟩
def d_law : He.DefD := ⟨("law", none), "law", "law", defArgs s_law, defBody s_law, defScope s_law, [], []⟩
def fn0 : List He.DefD := [d_Halving_init, d_Halving_place, d_Halving_tell, d_Halving_found, d_refined, d_classes, d_met_states, d_least, d_is_machine, d_check_machine, d_Table_init, d_Table_state_words]
def fn1 : List He.DefD := [d_Table_further_rows, d_Table_all_wanted, d_Table_outputs_of, d_Table_numbers, d_Table_extend, d_Table_add_column, d_Table_machine, d_Table_mistake, d_is_word_asker, d_digits_of, d_read_known, d_Asker_init]
def fn2 : List He.DefD := [d_Asker_step, d_Asker_need, d_Asker_answer, d_Asker_accept, d_Asker_show, d_Asker_report, d_Asker__next_step, d_Asker__fill, d_Asker__judge, d_Asker__path, d_Asker__begin, d_Asker__look]
def fn3 : List He.DefD := [d_ChangedAsker_init, d_ChangedAsker_step, d_ChangedAsker_answer, d_ChangedAsker_accept, d_ChangedAsker_show, d_ChangedAsker_report, d_search, d_check_kind, d_first_difference, d_Choices_init, d_Choices__extend, d_Choices_words]
def fn4 : List He.DefD := [d_Choices__find, d_Honest_init, d_Honest__next_pick, d_Honest_judge, d_law_row, d_law_at, d_law_machine, d_law_state, d_law_output, d_law_classes, d_law_least, d_law_digits]
def fn5 : List He.DefD := [d_law_bound, d_law_was, d_law]
def fn : List He.DefD := fn0 ++ fn1 ++ fn2 ++ fn3 ++ fn4 ++ fn5
def fa0 : List He.Fa := [.glo "refined", .glo "classes", .glo "met_states", .glo "least", .glo "is_machine", .glo "check_machine", .glo "is_word_asker", .glo "digits_of", .glo "read_known", .glo "search", .glo "check_kind", .glo "first_difference"]
def fa1 : List He.Fa := [.glo "_law_row", .glo "_law_at", .glo "_law_machine", .glo "_law_state", .glo "_law_output", .glo "_law_classes", .glo "_law_least", .glo "_law_digits", .glo "_law_bound", .glo "_law_was", .glo "law", .glo "Halving"]
def fa2 : List He.Fa := [.glo "Table", .glo "Asker", .glo "ChangedAsker", .glo "Choices", .glo "Honest", .glo "Alike", .free "len", .free "range", .free "enumerate", .free "tuple", .free "list", .free "reversed"]
def fa3 : List He.Fa := [.free "dict", .free "all", .free "any", .free "zip", .free "int", .free "min", .free "max", .free "sum", .free "abs", .free "str", .int "MAX_LETTERS" 4, .int "MAX_OUTS" 6]
def fa4 : List He.Fa := [.int "MAX_STATES" 30, .int "MAX_WORD" 400, .int "MAX_SHOWN" 300, .int "MAX_KNOWN" 400, .int "MAX_CHOICES" 60, .cls "Halving", .mkr "Halving", .noat "Halving" "_low", .noat "Halving" "_high", .cls "Table", .mkr "Table", .noat "Table" "letters"]
def fa5 : List He.Fa := [.noat "Table" "_states", .noat "Table" "_columns", .noat "Table" "_rows", .cls "Asker", .mkr "Asker", .noat "Asker" "letters", .noat "Asker" "outs", .noat "Asker" "most", .noat "Asker" "_given", .noat "Asker" "_known", .noat "Asker" "_replies", .noat "Asker" "_counts"]
def fa6 : List He.Fa := [.noat "Asker" "_table", .noat "Asker" "_machine", .noat "Asker" "_shown", .noat "Asker" "_search", .noat "Asker" "_queue", .noat "Asker" "_step", .cls "ChangedAsker", .mkr "ChangedAsker", .noat "ChangedAsker" "_asker", .noat "ChangedAsker" "_before", .noat "ChangedAsker" "_first", .noat "ChangedAsker" "_longest"]
def fa7 : List He.Fa := [.cls "Choices", .mkr "Choices", .noat "Choices" "_first", .noat "Choices" "_second", .noat "Choices" "_leading", .cls "Honest", .mkr "Honest", .noat "Honest" "_machine", .noat "Honest" "_picks", .noat "Honest" "_used", .meth "Halving" "place", .meth "Halving" "tell"]
def fa8 : List He.Fa := [.meth "Halving" "found", .meth "Table" "state_words", .meth "Table" "further_rows", .meth "Table" "all_wanted", .meth "Table" "outputs_of", .meth "Table" "numbers", .meth "Table" "extend", .meth "Table" "add_column", .meth "Table" "machine", .meth "Table" "mistake", .meth "Asker" "step", .meth "Asker" "need"]
def fa9 : List He.Fa := [.meth "Asker" "answer", .meth "Asker" "accept", .meth "Asker" "show", .meth "Asker" "report", .meth "Asker" "_next_step", .meth "Asker" "_fill", .meth "Asker" "_judge", .meth "Asker" "_path", .meth "Asker" "_begin", .meth "Asker" "_look", .meth "ChangedAsker" "step", .meth "ChangedAsker" "answer"]
def fa10 : List He.Fa := [.meth "ChangedAsker" "accept", .meth "ChangedAsker" "show", .meth "ChangedAsker" "report", .meth "Choices" "_extend", .meth "Choices" "words", .meth "Choices" "_find", .meth "Honest" "_next_pick", .meth "Honest" "judge", .exc "Alike", .exm "Alike" "Alike" true]
def fa : List He.Fa := fa0 ++ fa1 ++ fa2 ++ fa3 ++ fa4 ++ fa5 ++ fa6 ++ fa7 ++ fa8 ++ fa9 ++ fa10
def lo0 : List PySem.Str := ["_wall", "MaieuticError", "NotAllowed", "Missing", "Alike", "Wrong", "Broken", "Halving", "refined", "classes", "met_states", "least", "MAX_LETTERS", "MAX_OUTS", "MAX_STATES", "MAX_WORD", "MAX_SHOWN", "is_machine", "check_machine", "is_word"]
def lo1 : List PySem.Str := ["is_word_machines", "fits", "check_fits", "state_after", "output_after", "Table", "MAX_KNOWN", "is_word_asker", "digits_of", "read_known", "Asker", "ChangedAsker", "search", "check_kind", "first_difference", "MAX_CHOICES", "Choices", "Honest", "_law_row", "_law_at"]
def lo2 : List PySem.Str := ["_law_machine", "_law_state", "_law_output", "_law_classes", "_law_least", "_law_difference", "_law_digits", "_law_bound", "_law_was"]
def lo : List PySem.Str := lo0 ++ lo1 ++ lo2
-- law at 60
abbrev Rw : PySem.W.OpenRow := PySem.W.OpenLaw.row PySem.Challenge.rw_maieutic_k72_whole_changed_machines
abbrev hk : PySem.W.Hook := He.hookD 5 fa fn
def ob (s : PySem.W.SharedT) : He.AlD := He.obsDG 5 fa fn (HandSHeadRun.getT s)
theorem ob_eq (s : PySem.W.SharedT) : ob s = hk.obs s.abs := He.obsDG_eq (HandSHeadRun.getT_eq s)
theorem run (w : World) : HandSHeadRun.RunEq Rw (PySem.W.view Rw.prog [60]) hk ob 5200 lo w := by
  intro os
  kernel_rfl
end Hd
set_option maxHeartbeats 4000000
/-! ## A1 -/
namespace Hd
open PySem PySem.Spec PyProof.Rows L2 Evl MW
abbrev cs (K : PySem.W.Frag) : Cs := ⟨He.ga K "Halving", He.ga K "Table", He.ga K "Asker", He.ga K "ChangedAsker", He.ga K "Choices", He.ga K "Honest", He.ga K "Alike"⟩
section
variable {P : Program} {w : World} {K : PySem.W.Frag} {h : Heap} {mg : Str → Option Value} {base : Heap}
theorem tx (X : K.In h) (G : h.Ns mainGlobals mg) (c : He.SaysD fa fn K) : Tx K mg (cs K) where
  b_len := He.free_ok X G (c.fact 30 (f := .free "len") rfl)
  b_range := He.free_ok X G (c.fact 31 (f := .free "range") rfl)
  b_enumerate := He.free_ok X G (c.fact 32 (f := .free "enumerate") rfl)
  b_tuple := He.free_ok X G (c.fact 33 (f := .free "tuple") rfl)
  b_list := He.free_ok X G (c.fact 34 (f := .free "list") rfl)
  b_reversed := He.free_ok X G (c.fact 35 (f := .free "reversed") rfl)
  b_dict := He.free_ok X G (c.fact 36 (f := .free "dict") rfl)
  b_all := He.free_ok X G (c.fact 37 (f := .free "all") rfl)
  b_any := He.free_ok X G (c.fact 38 (f := .free "any") rfl)
  b_zip := He.free_ok X G (c.fact 39 (f := .free "zip") rfl)
  b_int := He.free_ok X G (c.fact 40 (f := .free "int") rfl)
  b_min := He.free_ok X G (c.fact 41 (f := .free "min") rfl)
  b_max := He.free_ok X G (c.fact 42 (f := .free "max") rfl)
  b_sum := He.free_ok X G (c.fact 43 (f := .free "sum") rfl)
  b_abs := He.free_ok X G (c.fact 44 (f := .free "abs") rfl)
  b_str := He.free_ok X G (c.fact 45 (f := .free "str") rfl)
  c_MAX_LETTERS := He.int_ok X G (c.fact 46 (f := .int "MAX_LETTERS" 4) rfl)
  c_MAX_OUTS := He.int_ok X G (c.fact 47 (f := .int "MAX_OUTS" 6) rfl)
  c_MAX_STATES := He.int_ok X G (c.fact 48 (f := .int "MAX_STATES" 30) rfl)
  c_MAX_WORD := He.int_ok X G (c.fact 49 (f := .int "MAX_WORD" 400) rfl)
  c_MAX_SHOWN := He.int_ok X G (c.fact 50 (f := .int "MAX_SHOWN" 300) rfl)
  c_MAX_KNOWN := He.int_ok X G (c.fact 51 (f := .int "MAX_KNOWN" 400) rfl)
  c_MAX_CHOICES := He.int_ok X G (c.fact 52 (f := .int "MAX_CHOICES" 60) rfl)
  k_Halving := He.cls_ok (c.fact 53 (f := .cls "Halving") rfl)
  n_Halving := fun f hf => by
    simp only [List.mem_cons, List.not_mem_nil, or_false] at hf
    rcases hf with rfl | rfl
    · exact He.noat_ok (c.fact 55 (f := .noat "Halving" "_low") rfl)
    · exact He.noat_ok (c.fact 56 (f := .noat "Halving" "_high") rfl)
  k_Table := He.cls_ok (c.fact 57 (f := .cls "Table") rfl)
  n_Table := fun f hf => by
    simp only [List.mem_cons, List.not_mem_nil, or_false] at hf
    rcases hf with rfl | rfl | rfl | rfl
    · exact He.noat_ok (c.fact 59 (f := .noat "Table" "letters") rfl)
    · exact He.noat_ok (c.fact 60 (f := .noat "Table" "_states") rfl)
    · exact He.noat_ok (c.fact 61 (f := .noat "Table" "_columns") rfl)
    · exact He.noat_ok (c.fact 62 (f := .noat "Table" "_rows") rfl)
  k_Asker := He.cls_ok (c.fact 63 (f := .cls "Asker") rfl)
  n_Asker := fun f hf => by
    simp only [List.mem_cons, List.not_mem_nil, or_false] at hf
    rcases hf with rfl | rfl | rfl | rfl | rfl | rfl | rfl | rfl | rfl | rfl | rfl | rfl | rfl
    · exact He.noat_ok (c.fact 65 (f := .noat "Asker" "letters") rfl)
    · exact He.noat_ok (c.fact 66 (f := .noat "Asker" "outs") rfl)
    · exact He.noat_ok (c.fact 67 (f := .noat "Asker" "most") rfl)
    · exact He.noat_ok (c.fact 68 (f := .noat "Asker" "_given") rfl)
    · exact He.noat_ok (c.fact 69 (f := .noat "Asker" "_known") rfl)
    · exact He.noat_ok (c.fact 70 (f := .noat "Asker" "_replies") rfl)
    · exact He.noat_ok (c.fact 71 (f := .noat "Asker" "_counts") rfl)
    · exact He.noat_ok (c.fact 72 (f := .noat "Asker" "_table") rfl)
    · exact He.noat_ok (c.fact 73 (f := .noat "Asker" "_machine") rfl)
    · exact He.noat_ok (c.fact 74 (f := .noat "Asker" "_shown") rfl)
    · exact He.noat_ok (c.fact 75 (f := .noat "Asker" "_search") rfl)
    · exact He.noat_ok (c.fact 76 (f := .noat "Asker" "_queue") rfl)
    · exact He.noat_ok (c.fact 77 (f := .noat "Asker" "_step") rfl)
  k_ChangedAsker := He.cls_ok (c.fact 78 (f := .cls "ChangedAsker") rfl)
  n_ChangedAsker := fun f hf => by
    simp only [List.mem_cons, List.not_mem_nil, or_false] at hf
    rcases hf with rfl | rfl | rfl | rfl
    · exact He.noat_ok (c.fact 80 (f := .noat "ChangedAsker" "_asker") rfl)
    · exact He.noat_ok (c.fact 81 (f := .noat "ChangedAsker" "_before") rfl)
    · exact He.noat_ok (c.fact 82 (f := .noat "ChangedAsker" "_first") rfl)
    · exact He.noat_ok (c.fact 83 (f := .noat "ChangedAsker" "_longest") rfl)
  k_Choices := He.cls_ok (c.fact 84 (f := .cls "Choices") rfl)
  n_Choices := fun f hf => by
    simp only [List.mem_cons, List.not_mem_nil, or_false] at hf
    rcases hf with rfl | rfl | rfl
    · exact He.noat_ok (c.fact 86 (f := .noat "Choices" "_first") rfl)
    · exact He.noat_ok (c.fact 87 (f := .noat "Choices" "_second") rfl)
    · exact He.noat_ok (c.fact 88 (f := .noat "Choices" "_leading") rfl)
  k_Honest := He.cls_ok (c.fact 89 (f := .cls "Honest") rfl)
  n_Honest := fun f hf => by
    simp only [List.mem_cons, List.not_mem_nil, or_false] at hf
    rcases hf with rfl | rfl | rfl
    · exact He.noat_ok (c.fact 91 (f := .noat "Honest" "_machine") rfl)
    · exact He.noat_ok (c.fact 92 (f := .noat "Honest" "_picks") rfl)
    · exact He.noat_ok (c.fact 93 (f := .noat "Honest" "_used") rfl)
theorem alk (X : K.In h) (G : h.Ns mainGlobals mg) (c : He.SaysD fa fn K) : AlkT K mg (cs K) := by
  obtain ⟨h1, h2, h3, h4⟩ := He.exc_ok (c.fact 128 (f := .exc "Alike") rfl)
  exact ⟨He.glo_ok X G (c.fact 29 (f := .glo "Alike") rfl), h1, h2, h3, h4, He.exm_ok (c.fact 129 (f := .exm "Alike" "Alike" true) rfl)⟩
theorem facts {f : Addr} (X : K.In h) (G : h.Ns mainGlobals mg) (hfa : mg ("law" : Str) = some (.ref f)) (c : He.SaysD fa fn K) :
    ∃ fd : FuncData, (∀ (s : Shared) (v : Value), BindsTo s fd ⟨[v], []⟩ [("_law_script", v)]) ∧ ∀ base : Heap, K.In base → base.Ns mainGlobals mg → FnOk P w K mg base CX0 63 f fd ["_law_script"] (sp_law P w K (cs K)) := by
  have T := tx X G c
  have AL := alk X G c
  obtain ⟨fd_refined, F_refined⟩ := c.def_ 4 (d := d_refined) rfl
  have B_refined : Binds K fd_refined p_refined [] := F_refined.bindsN fun _ _ _ _ _ _ us hl => match us, hl with | [_, _], _ => rfl
  obtain ⟨fd_classes, F_classes⟩ := c.def_ 5 (d := d_classes) rfl
  have B_classes : Binds K fd_classes p_classes [] := F_classes.bindsN fun _ _ _ _ _ _ us hl => match us, hl with | [_], _ => rfl
  obtain ⟨fd_met_states, F_met_states⟩ := c.def_ 6 (d := d_met_states) rfl
  have B_met_states : Binds K fd_met_states p_met_states [] := F_met_states.bindsN fun _ _ _ _ _ _ us hl => match us, hl with | [_, _], _ => rfl
  obtain ⟨fd_least, F_least⟩ := c.def_ 7 (d := d_least) rfl
  have B_least : Binds K fd_least p_least [] := F_least.bindsN fun _ _ _ _ _ _ us hl => match us, hl with | [_], _ => rfl
  obtain ⟨fd_is_machine, F_is_machine⟩ := c.def_ 8 (d := d_is_machine) rfl
  have B_is_machine : Binds K fd_is_machine p_is_machine [] := F_is_machine.bindsN fun _ _ _ _ _ _ us hl => match us, hl with | [_], _ => rfl
  obtain ⟨fd_check_machine, F_check_machine⟩ := c.def_ 9 (d := d_check_machine) rfl
  have B_check_machine : Binds K fd_check_machine p_check_machine [] := F_check_machine.bindsN fun _ _ _ _ _ _ us hl => match us, hl with | [_], _ => rfl
  obtain ⟨fd_Halving_init, F_Halving_init⟩ := c.def_ 0 (d := d_Halving_init) rfl
  have B_Halving_init : Binds K fd_Halving_init p_Halving_init [] := F_Halving_init.bindsN fun _ _ _ _ _ _ us hl => match us, hl with | [_, _], _ => rfl
  obtain ⟨fd_Halving_place, F_Halving_place⟩ := c.def_ 1 (d := d_Halving_place) rfl
  have B_Halving_place : Binds K fd_Halving_place p_Halving_place [] := F_Halving_place.bindsN fun _ _ _ _ _ _ us hl => match us, hl with | [_], _ => rfl
  obtain ⟨fd_Halving_tell, F_Halving_tell⟩ := c.def_ 2 (d := d_Halving_tell) rfl
  have B_Halving_tell : Binds K fd_Halving_tell p_Halving_tell [] := F_Halving_tell.bindsN fun _ _ _ _ _ _ us hl => match us, hl with | [_, _], _ => rfl
  obtain ⟨fd_Halving_found, F_Halving_found⟩ := c.def_ 3 (d := d_Halving_found) rfl
  have B_Halving_found : Binds K fd_Halving_found p_Halving_found [] := F_Halving_found.bindsN fun _ _ _ _ _ _ us hl => match us, hl with | [_], _ => rfl
  obtain ⟨fd_Table_further_rows, F_Table_further_rows⟩ := c.def_ 12 (d := d_Table_further_rows) rfl
  have B_Table_further_rows : Binds K fd_Table_further_rows p_Table_further_rows [] := F_Table_further_rows.bindsN fun _ _ _ _ _ _ us hl => match us, hl with | [_], _ => rfl
  obtain ⟨fd_Table_init, F_Table_init⟩ := c.def_ 10 (d := d_Table_init) rfl
  have B_Table_init : Binds K fd_Table_init p_Table_init [] := F_Table_init.bindsN fun _ _ _ _ _ _ us hl => match us, hl with | [_, _], _ => rfl
  obtain ⟨fd_Table_state_words, F_Table_state_words⟩ := c.def_ 11 (d := d_Table_state_words) rfl
  have B_Table_state_words : Binds K fd_Table_state_words p_Table_state_words [] := F_Table_state_words.bindsN fun _ _ _ _ _ _ us hl => match us, hl with | [_], _ => rfl
  obtain ⟨fd_Table_outputs_of, F_Table_outputs_of⟩ := c.def_ 14 (d := d_Table_outputs_of) rfl
  have B_Table_outputs_of : Binds K fd_Table_outputs_of p_Table_outputs_of [] := F_Table_outputs_of.bindsN fun _ _ _ _ _ _ us hl => match us, hl with | [_, _, _], _ => rfl
  obtain ⟨fd_Table_numbers, F_Table_numbers⟩ := c.def_ 15 (d := d_Table_numbers) rfl
  have B_Table_numbers : Binds K fd_Table_numbers p_Table_numbers [] := F_Table_numbers.bindsN fun _ _ _ _ _ _ us hl => match us, hl with | [_, _], _ => rfl
  obtain ⟨fd_Table_all_wanted, F_Table_all_wanted⟩ := c.def_ 13 (d := d_Table_all_wanted) rfl
  have B_Table_all_wanted : Binds K fd_Table_all_wanted p_Table_all_wanted [] := F_Table_all_wanted.bindsN fun _ _ _ _ _ _ us hl => match us, hl with | [_, _], _ => rfl
  obtain ⟨fd_Table_extend, F_Table_extend⟩ := c.def_ 16 (d := d_Table_extend) rfl
  have B_Table_extend : Binds K fd_Table_extend p_Table_extend [] := F_Table_extend.bindsN fun _ _ _ _ _ _ us hl => match us, hl with | [_, _], _ => rfl
  obtain ⟨fd_Table_add_column, F_Table_add_column⟩ := c.def_ 17 (d := d_Table_add_column) rfl
  have B_Table_add_column : Binds K fd_Table_add_column p_Table_add_column [] := F_Table_add_column.bindsN fun _ _ _ _ _ _ us hl => match us, hl with | [_, _], _ => rfl
  obtain ⟨fd_Table_machine, F_Table_machine⟩ := c.def_ 18 (d := d_Table_machine) rfl
  have B_Table_machine : Binds K fd_Table_machine p_Table_machine [] := F_Table_machine.bindsN fun _ _ _ _ _ _ us hl => match us, hl with | [_, _, _], _ => rfl
  obtain ⟨fd_Table_mistake, F_Table_mistake⟩ := c.def_ 19 (d := d_Table_mistake) rfl
  have B_Table_mistake : Binds K fd_Table_mistake p_Table_mistake [] := F_Table_mistake.bindsN fun _ _ _ _ _ _ us hl => match us, hl with | [_, _, _], _ => rfl
  obtain ⟨fd_Asker__path, F_Asker__path⟩ := c.def_ 33 (d := d_Asker__path) rfl
  have B_Asker__path : Binds K fd_Asker__path p_Asker__path [] := F_Asker__path.bindsN fun _ _ _ _ _ _ us hl => match us, hl with | [_, _, _], _ => rfl
  obtain ⟨fd_Asker__begin, F_Asker__begin⟩ := c.def_ 34 (d := d_Asker__begin) rfl
  have B_Asker__begin : Binds K fd_Asker__begin p_Asker__begin [] := F_Asker__begin.bindsN fun _ _ _ _ _ _ us hl => match us, hl with | [_, _, _], _ => rfl
  obtain ⟨fd_Asker__judge, F_Asker__judge⟩ := c.def_ 32 (d := d_Asker__judge) rfl
  have B_Asker__judge : Binds K fd_Asker__judge p_Asker__judge [] := F_Asker__judge.bindsN fun _ _ _ _ _ _ us hl => match us, hl with | [_], _ => rfl
  obtain ⟨fd_Asker__look, F_Asker__look⟩ := c.def_ 35 (d := d_Asker__look) rfl
  have B_Asker__look : Binds K fd_Asker__look p_Asker__look [] := F_Asker__look.bindsN fun _ _ _ _ _ _ us hl => match us, hl with | [_], _ => rfl
  obtain ⟨fd_Asker__fill, F_Asker__fill⟩ := c.def_ 31 (d := d_Asker__fill) rfl
  have B_Asker__fill : Binds K fd_Asker__fill p_Asker__fill [] := F_Asker__fill.bindsN fun _ _ _ _ _ _ us hl => match us, hl with | [_], _ => rfl
  obtain ⟨fd_Asker__next_step, F_Asker__next_step⟩ := c.def_ 30 (d := d_Asker__next_step) rfl
  have B_Asker__next_step : Binds K fd_Asker__next_step p_Asker__next_step [] := F_Asker__next_step.bindsN fun _ _ _ _ _ _ us hl => match us, hl with | [_], _ => rfl
  obtain ⟨fd_is_word_asker, F_is_word_asker⟩ := c.def_ 20 (d := d_is_word_asker) rfl
  have B_is_word_asker : Binds K fd_is_word_asker p_is_word_asker [] := F_is_word_asker.bindsN fun _ _ _ _ _ _ us hl => match us, hl with | [_, _, _], _ => rfl
  obtain ⟨fd_digits_of, F_digits_of⟩ := c.def_ 21 (d := d_digits_of) rfl
  have B_digits_of : Binds K fd_digits_of p_digits_of [] := F_digits_of.bindsN fun _ _ _ _ _ _ us hl => match us, hl with | [_], _ => rfl
  obtain ⟨fd_read_known, F_read_known⟩ := c.def_ 22 (d := d_read_known) rfl
  have B_read_known : Binds K fd_read_known p_read_known [] := F_read_known.bindsN fun _ _ _ _ _ _ us hl => match us, hl with | [_, _, _], _ => rfl
  obtain ⟨fd_Asker_step, F_Asker_step⟩ := c.def_ 24 (d := d_Asker_step) rfl
  have B_Asker_step : Binds K fd_Asker_step p_Asker_step [] := F_Asker_step.bindsN fun _ _ _ _ _ _ us hl => match us, hl with | [_], _ => rfl
  obtain ⟨fd_Asker_need, F_Asker_need⟩ := c.def_ 25 (d := d_Asker_need) rfl
  have B_Asker_need : Binds K fd_Asker_need p_Asker_need [] := F_Asker_need.bindsN fun _ _ _ _ _ _ us hl => match us, hl with | [_, _], _ => rfl
  obtain ⟨fd_Asker_report, F_Asker_report⟩ := c.def_ 29 (d := d_Asker_report) rfl
  have B_Asker_report : Binds K fd_Asker_report p_Asker_report [] := F_Asker_report.bindsN fun _ _ _ _ _ _ us hl => match us, hl with | [_], _ => rfl
  obtain ⟨fd_Asker_accept, F_Asker_accept⟩ := c.def_ 27 (d := d_Asker_accept) rfl
  have B_Asker_accept : Binds K fd_Asker_accept p_Asker_accept [] := F_Asker_accept.bindsN fun _ _ _ _ _ _ us hl => match us, hl with | [_], _ => rfl
  obtain ⟨fd_Asker_answer, F_Asker_answer⟩ := c.def_ 26 (d := d_Asker_answer) rfl
  have B_Asker_answer : Binds K fd_Asker_answer p_Asker_answer [] := F_Asker_answer.bindsN fun _ _ _ _ _ _ us hl => match us, hl with | [_, _], _ => rfl
  obtain ⟨fd_Asker_show, F_Asker_show⟩ := c.def_ 28 (d := d_Asker_show) rfl
  have B_Asker_show : Binds K fd_Asker_show p_Asker_show [] := F_Asker_show.bindsN fun _ _ _ _ _ _ us hl => match us, hl with | [_, _], _ => rfl
  obtain ⟨fd_Asker_init, F_Asker_init⟩ := c.def_ 23 (d := d_Asker_init) rfl
  have B_Asker_init : Binds K fd_Asker_init p_Asker_init [] := F_Asker_init.bindsN fun _ _ _ _ _ _ us hl => match us, hl with | [_, _, _, _, _], _ => rfl
  obtain ⟨fd_ChangedAsker_init, F_ChangedAsker_init⟩ := c.def_ 36 (d := d_ChangedAsker_init) rfl
  have B_ChangedAsker_init : Binds K fd_ChangedAsker_init p_ChangedAsker_init [] := F_ChangedAsker_init.bindsN fun _ _ _ _ _ _ us hl => match us, hl with | [_, _, _], _ => rfl
  obtain ⟨fd_ChangedAsker_step, F_ChangedAsker_step⟩ := c.def_ 37 (d := d_ChangedAsker_step) rfl
  have B_ChangedAsker_step : Binds K fd_ChangedAsker_step p_ChangedAsker_step [] := F_ChangedAsker_step.bindsN fun _ _ _ _ _ _ us hl => match us, hl with | [_], _ => rfl
  obtain ⟨fd_ChangedAsker_answer, F_ChangedAsker_answer⟩ := c.def_ 38 (d := d_ChangedAsker_answer) rfl
  have B_ChangedAsker_answer : Binds K fd_ChangedAsker_answer p_ChangedAsker_answer [] := F_ChangedAsker_answer.bindsN fun _ _ _ _ _ _ us hl => match us, hl with | [_, _], _ => rfl
  obtain ⟨fd_ChangedAsker_accept, F_ChangedAsker_accept⟩ := c.def_ 39 (d := d_ChangedAsker_accept) rfl
  have B_ChangedAsker_accept : Binds K fd_ChangedAsker_accept p_ChangedAsker_accept [] := F_ChangedAsker_accept.bindsN fun _ _ _ _ _ _ us hl => match us, hl with | [_], _ => rfl
  obtain ⟨fd_ChangedAsker_show, F_ChangedAsker_show⟩ := c.def_ 40 (d := d_ChangedAsker_show) rfl
  have B_ChangedAsker_show : Binds K fd_ChangedAsker_show p_ChangedAsker_show [] := F_ChangedAsker_show.bindsN fun _ _ _ _ _ _ us hl => match us, hl with | [_, _], _ => rfl
  obtain ⟨fd_ChangedAsker_report, F_ChangedAsker_report⟩ := c.def_ 41 (d := d_ChangedAsker_report) rfl
  have B_ChangedAsker_report : Binds K fd_ChangedAsker_report p_ChangedAsker_report [] := F_ChangedAsker_report.bindsN fun _ _ _ _ _ _ us hl => match us, hl with | [_], _ => rfl
  obtain ⟨fd_check_kind, F_check_kind⟩ := c.def_ 43 (d := d_check_kind) rfl
  have B_check_kind : Binds K fd_check_kind p_check_kind [] := F_check_kind.bindsN fun _ _ _ _ _ _ us hl => match us, hl with | [_, _], _ => rfl
  obtain ⟨fd_search, F_search⟩ := c.def_ 42 (d := d_search) rfl
  have B_search : Binds K fd_search p_search [] := F_search.bindsN fun _ _ _ _ _ _ us hl => match us, hl with | [_, _, _, _], _ => rfl
  obtain ⟨fd_Choices_init, F_Choices_init⟩ := c.def_ 45 (d := d_Choices_init) rfl
  have B_Choices_init : Binds K fd_Choices_init p_Choices_init [] := F_Choices_init.bindsN fun _ _ _ _ _ _ us hl => match us, hl with | [_, _, _], _ => rfl
  obtain ⟨fd_Choices__extend, F_Choices__extend⟩ := c.def_ 46 (d := d_Choices__extend) rfl
  have B_Choices__extend : Binds K fd_Choices__extend p_Choices__extend [] := F_Choices__extend.bindsN fun _ _ _ _ _ _ us hl => match us, hl with | [_], _ => rfl
  obtain ⟨fd_Choices__find, F_Choices__find⟩ := c.def_ 48 (d := d_Choices__find) rfl
  have B_Choices__find : Binds K fd_Choices__find p_Choices__find [] := F_Choices__find.bindsN fun _ _ _ _ _ _ us hl => match us, hl with | [_, _, _, _, _, _], _ => rfl
  obtain ⟨fd_Choices_words, F_Choices_words⟩ := c.def_ 47 (d := d_Choices_words) rfl
  have B_Choices_words : Binds K fd_Choices_words p_Choices_words [] := F_Choices_words.bindsN fun _ _ _ _ _ _ us hl => match us, hl with | [_, _, _], _ => rfl
  obtain ⟨fd_Honest_init, F_Honest_init⟩ := c.def_ 49 (d := d_Honest_init) rfl
  have B_Honest_init : Binds K fd_Honest_init p_Honest_init [] := F_Honest_init.bindsN fun _ _ _ _ _ _ us hl => match us, hl with | [_, _, _], _ => rfl
  obtain ⟨fd_Honest__next_pick, F_Honest__next_pick⟩ := c.def_ 50 (d := d_Honest__next_pick) rfl
  have B_Honest__next_pick : Binds K fd_Honest__next_pick p_Honest__next_pick [] := F_Honest__next_pick.bindsN fun _ _ _ _ _ _ us hl => match us, hl with | [_], _ => rfl
  obtain ⟨fd_first_difference, F_first_difference⟩ := c.def_ 44 (d := d_first_difference) rfl
  have B_first_difference : Binds K fd_first_difference p_first_difference [] := F_first_difference.bindsN fun _ _ _ _ _ _ us hl => match us, hl with | [_, _], _ => rfl
  obtain ⟨fd_Honest_judge, F_Honest_judge⟩ := c.def_ 51 (d := d_Honest_judge) rfl
  have B_Honest_judge : Binds K fd_Honest_judge p_Honest_judge [] := F_Honest_judge.bindsN fun _ _ _ _ _ _ us hl => match us, hl with | [_, _], _ => rfl
  obtain ⟨fd_law_row, F_law_row⟩ := c.def_ 52 (d := d_law_row) rfl
  have B_law_row : Binds K fd_law_row p_law_row [] := F_law_row.bindsN fun _ _ _ _ _ _ us hl => match us, hl with | [_], _ => rfl
  obtain ⟨fd_law_at, F_law_at⟩ := c.def_ 53 (d := d_law_at) rfl
  have B_law_at : Binds K fd_law_at p_law_at [] := F_law_at.bindsN fun _ _ _ _ _ _ us hl => match us, hl with | [_, _], _ => rfl
  obtain ⟨fd_law_state, F_law_state⟩ := c.def_ 55 (d := d_law_state) rfl
  have B_law_state : Binds K fd_law_state p_law_state [] := F_law_state.bindsN fun _ _ _ _ _ _ us hl => match us, hl with | [_, _], _ => rfl
  obtain ⟨fd_law_output, F_law_output⟩ := c.def_ 56 (d := d_law_output) rfl
  have B_law_output : Binds K fd_law_output p_law_output [] := F_law_output.bindsN fun _ _ _ _ _ _ us hl => match us, hl with | [_, _], _ => rfl
  obtain ⟨fd_law_digits, F_law_digits⟩ := c.def_ 59 (d := d_law_digits) rfl
  have B_law_digits : Binds K fd_law_digits p_law_digits [] := F_law_digits.bindsN fun _ _ _ _ _ _ us hl => match us, hl with | [_], _ => rfl
  obtain ⟨fd_law_bound, F_law_bound⟩ := c.def_ 60 (d := d_law_bound) rfl
  have B_law_bound : Binds K fd_law_bound p_law_bound [] := F_law_bound.bindsN fun _ _ _ _ _ _ us hl => match us, hl with | [_, _, _], _ => rfl
  obtain ⟨fd_law_machine, F_law_machine⟩ := c.def_ 54 (d := d_law_machine) rfl
  have B_law_machine : Binds K fd_law_machine p_law_machine [] := F_law_machine.bindsN fun _ _ _ _ _ _ us hl => match us, hl with | [_, _, _, _, _], _ => rfl
  obtain ⟨fd_law_classes, F_law_classes⟩ := c.def_ 57 (d := d_law_classes) rfl
  have B_law_classes : Binds K fd_law_classes p_law_classes [] := F_law_classes.bindsN fun _ _ _ _ _ _ us hl => match us, hl with | [_], _ => rfl
  obtain ⟨fd_law_least, F_law_least⟩ := c.def_ 58 (d := d_law_least) rfl
  have B_law_least : Binds K fd_law_least p_law_least [] := F_law_least.bindsN fun _ _ _ _ _ _ us hl => match us, hl with | [_], _ => rfl
  obtain ⟨fd_law_was, F_law_was⟩ := c.def_ 61 (d := d_law_was) rfl
  have B_law_was : Binds K fd_law_was p_law_was [] := F_law_was.bindsN fun _ _ _ _ _ _ us hl => match us, hl with | [_, _], _ => rfl
  obtain ⟨fd, F⟩ := c.def_ 62 (d := d_law) rfl
  have e := hfa.symm.trans (He.glo_ok X G (c.fact 22 (f := .glo "law") rfl))
  cases e
  have b := FunD.bindsA (ps := ["_law_script"]) F fun _ _ _ _ _ _ us hl => match us, hl with | [_], _ => rfl
  refine ⟨fd, fun s v => b s [v] rfl, fun base _ _ => ?_⟩
  have D_refined : Dfn P w K mg base CX0 1 "refined" p_refined (sp_refined P w K (cs K)) := ⟨⟨_, fd_refined, He.glo_ok X G (c.fact 0 (f := .glo "refined") rfl), F_refined.kp, B_refined, ok_refined T F_refined⟩⟩
  have D_classes : Dfn P w K mg base CX0 2 "classes" p_classes (sp_classes P w K (cs K)) := ⟨⟨_, fd_classes, He.glo_ok X G (c.fact 1 (f := .glo "classes") rfl), F_classes.kp, B_classes, ok_classes T D_refined F_classes⟩⟩
  have D_met_states : Dfn P w K mg base CX0 1 "met_states" p_met_states (sp_met_states P w K (cs K)) := ⟨⟨_, fd_met_states, He.glo_ok X G (c.fact 2 (f := .glo "met_states") rfl), F_met_states.kp, B_met_states, ok_met_states T F_met_states⟩⟩
  have D_least : Dfn P w K mg base CX0 3 "least" p_least (sp_least P w K (cs K)) := ⟨⟨_, fd_least, He.glo_ok X G (c.fact 3 (f := .glo "least") rfl), F_least.kp, B_least, ok_least T D_classes D_met_states F_least⟩⟩
  have D_is_machine : Dfn P w K mg base CX0 1 "is_machine" p_is_machine (sp_is_machine P w K (cs K)) := ⟨⟨_, fd_is_machine, He.glo_ok X G (c.fact 4 (f := .glo "is_machine") rfl), F_is_machine.kp, B_is_machine, ok_is_machine T F_is_machine⟩⟩
  have D_check_machine : Dfn P w K mg base CX0 2 "check_machine" p_check_machine (sp_check_machine P w K (cs K)) := ⟨⟨_, fd_check_machine, He.glo_ok X G (c.fact 5 (f := .glo "check_machine") rfl), F_check_machine.kp, B_check_machine, ok_check_machine T D_is_machine F_check_machine⟩⟩
  have D_Halving_init : Mkd P w K mg base CX0 1 "Halving" (cs K).Halving p_Halving_init (sp_Halving_init P w K (cs K)) := ⟨⟨_, fd_Halving_init, He.glo_ok X G (c.fact 23 (f := .glo "Halving") rfl), He.mkr_ok (c.fact 54 (f := .mkr "Halving") rfl), B_Halving_init, ok_Halving_init T F_Halving_init⟩⟩
  have D_Halving_place : Mtd P w K mg base CX0 1 (cs K).Halving "place" p_Halving_place (sp_Halving_place P w K (cs K)) := ⟨⟨_, fd_Halving_place, He.meth_ok (c.fact 94 (f := .meth "Halving" "place") rfl), B_Halving_place, ok_Halving_place T F_Halving_place⟩⟩
  have D_Halving_tell : Mtd P w K mg base CX0 2 (cs K).Halving "tell" p_Halving_tell (sp_Halving_tell P w K (cs K)) := ⟨⟨_, fd_Halving_tell, He.meth_ok (c.fact 95 (f := .meth "Halving" "tell") rfl), B_Halving_tell, ok_Halving_tell T D_Halving_place F_Halving_tell⟩⟩
  have D_Halving_found : Mtd P w K mg base CX0 2 (cs K).Halving "found" p_Halving_found (sp_Halving_found P w K (cs K)) := ⟨⟨_, fd_Halving_found, He.meth_ok (c.fact 96 (f := .meth "Halving" "found") rfl), B_Halving_found, ok_Halving_found T D_Halving_place F_Halving_found⟩⟩
  have D_Table_further_rows : Mtd P w K mg base CX0 1 (cs K).Table "further_rows" p_Table_further_rows (sp_Table_further_rows P w K (cs K)) := ⟨⟨_, fd_Table_further_rows, He.meth_ok (c.fact 98 (f := .meth "Table" "further_rows") rfl), B_Table_further_rows, ok_Table_further_rows T F_Table_further_rows⟩⟩
  have D_Table_init : Mkd P w K mg base CX0 2 "Table" (cs K).Table p_Table_init (sp_Table_init P w K (cs K)) := ⟨⟨_, fd_Table_init, He.glo_ok X G (c.fact 24 (f := .glo "Table") rfl), He.mkr_ok (c.fact 58 (f := .mkr "Table") rfl), B_Table_init, ok_Table_init T D_Table_further_rows F_Table_init⟩⟩
  have D_Table_state_words : Mtd P w K mg base CX0 1 (cs K).Table "state_words" p_Table_state_words (sp_Table_state_words P w K (cs K)) := ⟨⟨_, fd_Table_state_words, He.meth_ok (c.fact 97 (f := .meth "Table" "state_words") rfl), B_Table_state_words, ok_Table_state_words T F_Table_state_words⟩⟩
  have D_Table_outputs_of : Mtd P w K mg base CX0 1 (cs K).Table "outputs_of" p_Table_outputs_of (sp_Table_outputs_of P w K (cs K)) := ⟨⟨_, fd_Table_outputs_of, He.meth_ok (c.fact 100 (f := .meth "Table" "outputs_of") rfl), B_Table_outputs_of, ok_Table_outputs_of T F_Table_outputs_of⟩⟩
  have D_Table_numbers : Mtd P w K mg base CX0 2 (cs K).Table "numbers" p_Table_numbers (sp_Table_numbers P w K (cs K)) := ⟨⟨_, fd_Table_numbers, He.meth_ok (c.fact 101 (f := .meth "Table" "numbers") rfl), B_Table_numbers, ok_Table_numbers T D_Table_outputs_of F_Table_numbers⟩⟩
  have D_Table_all_wanted : Mtd P w K mg base CX0 1 (cs K).Table "all_wanted" p_Table_all_wanted (sp_Table_all_wanted P w K (cs K)) := ⟨⟨_, fd_Table_all_wanted, He.meth_ok (c.fact 99 (f := .meth "Table" "all_wanted") rfl), B_Table_all_wanted, ok_Table_all_wanted T F_Table_all_wanted⟩⟩
  have D_Table_extend : Mtd P w K mg base CX0 3 (cs K).Table "extend" p_Table_extend (sp_Table_extend P w K (cs K)) := ⟨⟨_, fd_Table_extend, He.meth_ok (c.fact 102 (f := .meth "Table" "extend") rfl), B_Table_extend, ok_Table_extend T D_Table_numbers D_Table_outputs_of D_Table_further_rows F_Table_extend⟩⟩
  have D_Table_add_column : Mtd P w K mg base CX0 1 (cs K).Table "add_column" p_Table_add_column (sp_Table_add_column P w K (cs K)) := ⟨⟨_, fd_Table_add_column, He.meth_ok (c.fact 103 (f := .meth "Table" "add_column") rfl), B_Table_add_column, ok_Table_add_column T F_Table_add_column⟩⟩
  have D_Table_machine : Mtd P w K mg base CX0 3 (cs K).Table "machine" p_Table_machine (sp_Table_machine P w K (cs K)) := ⟨⟨_, fd_Table_machine, He.meth_ok (c.fact 104 (f := .meth "Table" "machine") rfl), B_Table_machine, ok_Table_machine T D_Table_numbers D_Table_outputs_of F_Table_machine⟩⟩
  have D_Table_mistake : Mtd P w K mg base CX0 4 (cs K).Table "mistake" p_Table_mistake (sp_Table_mistake P w K (cs K)) := ⟨⟨_, fd_Table_mistake, He.meth_ok (c.fact 105 (f := .meth "Table" "mistake") rfl), B_Table_mistake, ok_Table_mistake T D_Table_machine F_Table_mistake⟩⟩
  have D_Asker__path : Mtd P w K mg base CX0 1 (cs K).Asker "_path" p_Asker__path (sp_Asker__path P w K (cs K)) := ⟨⟨_, fd_Asker__path, He.meth_ok (c.fact 115 (f := .meth "Asker" "_path") rfl), B_Asker__path, ok_Asker__path T F_Asker__path⟩⟩
  have D_Asker__begin : Mtd P w K mg base CX0 3 (cs K).Asker "_begin" p_Asker__begin (sp_Asker__begin P w K (cs K)) := ⟨⟨_, fd_Asker__begin, He.meth_ok (c.fact 116 (f := .meth "Asker" "_begin") rfl), B_Asker__begin, ok_Asker__begin T D_Asker__path D_Table_state_words D_Halving_init F_Asker__begin⟩⟩
  have D_Asker__judge : Mtd P w K mg base CX0 4 (cs K).Asker "_judge" p_Asker__judge (sp_Asker__judge P w K (cs K)) := ⟨⟨_, fd_Asker__judge, He.meth_ok (c.fact 114 (f := .meth "Asker" "_judge") rfl), B_Asker__judge, ok_Asker__judge T D_Asker__path D_Asker__begin F_Asker__judge⟩⟩
  have D_Asker__look : Mtd P w K mg base CX0 3 (cs K).Asker "_look" p_Asker__look (sp_Asker__look P w K (cs K)) := ⟨⟨_, fd_Asker__look, He.meth_ok (c.fact 117 (f := .meth "Asker" "_look") rfl), B_Asker__look, ok_Asker__look T D_Halving_place D_Table_add_column D_Halving_found D_Halving_tell F_Asker__look⟩⟩
  have D_Asker__fill : Mtd P w K mg base CX0 5 (cs K).Asker "_fill" p_Asker__fill (sp_Asker__fill P w K (cs K)) := ⟨⟨_, fd_Asker__fill, He.meth_ok (c.fact 113 (f := .meth "Asker" "_fill") rfl), B_Asker__fill, ok_Asker__fill T D_Table_all_wanted D_Table_extend D_Table_state_words D_Table_machine D_Table_mistake D_Asker__begin D_least F_Asker__fill⟩⟩
  have D_Asker__next_step : Mtd P w K mg base CX0 6 (cs K).Asker "_next_step" p_Asker__next_step (sp_Asker__next_step P w K (cs K)) := ⟨⟨_, fd_Asker__next_step, He.meth_ok (c.fact 112 (f := .meth "Asker" "_next_step") rfl), B_Asker__next_step, ok_Asker__next_step T D_Asker__look D_Asker__judge D_Asker__fill F_Asker__next_step⟩⟩
  have D_is_word_asker : Dfn P w K mg base CX0 1 "is_word_asker" p_is_word_asker (sp_is_word_asker P w K (cs K)) := ⟨⟨_, fd_is_word_asker, He.glo_ok X G (c.fact 6 (f := .glo "is_word_asker") rfl), F_is_word_asker.kp, B_is_word_asker, ok_is_word_asker T F_is_word_asker⟩⟩
  have D_digits_of : Dfn P w K mg base CX0 1 "digits_of" p_digits_of (sp_digits_of P w K (cs K)) := ⟨⟨_, fd_digits_of, He.glo_ok X G (c.fact 7 (f := .glo "digits_of") rfl), F_digits_of.kp, B_digits_of, ok_digits_of T F_digits_of⟩⟩
  have D_read_known : Dfn P w K mg base CX0 2 "read_known" p_read_known (sp_read_known P w K (cs K)) := ⟨⟨_, fd_read_known, He.glo_ok X G (c.fact 8 (f := .glo "read_known") rfl), F_read_known.kp, B_read_known, ok_read_known T D_is_word_asker F_read_known⟩⟩
  have D_Asker_step : Mtd P w K mg base CX0 1 (cs K).Asker "step" p_Asker_step (sp_Asker_step P w K (cs K)) := ⟨⟨_, fd_Asker_step, He.meth_ok (c.fact 106 (f := .meth "Asker" "step") rfl), B_Asker_step, ok_Asker_step T F_Asker_step⟩⟩
  have D_Asker_need : Mtd P w K mg base CX0 1 (cs K).Asker "need" p_Asker_need (sp_Asker_need P w K (cs K)) := ⟨⟨_, fd_Asker_need, He.meth_ok (c.fact 107 (f := .meth "Asker" "need") rfl), B_Asker_need, ok_Asker_need T F_Asker_need⟩⟩
  have D_Asker_report : Mtd P w K mg base CX0 1 (cs K).Asker "report" p_Asker_report (sp_Asker_report P w K (cs K)) := ⟨⟨_, fd_Asker_report, He.meth_ok (c.fact 111 (f := .meth "Asker" "report") rfl), B_Asker_report, ok_Asker_report T F_Asker_report⟩⟩
  have D_Asker_accept : Mtd P w K mg base CX0 2 (cs K).Asker "accept" p_Asker_accept (sp_Asker_accept P w K (cs K)) := ⟨⟨_, fd_Asker_accept, He.meth_ok (c.fact 109 (f := .meth "Asker" "accept") rfl), B_Asker_accept, ok_Asker_accept T D_Asker_need F_Asker_accept⟩⟩
  have D_Asker_answer : Mtd P w K mg base CX0 7 (cs K).Asker "answer" p_Asker_answer (sp_Asker_answer P w K (cs K)) := ⟨⟨_, fd_Asker_answer, He.meth_ok (c.fact 108 (f := .meth "Asker" "answer") rfl), B_Asker_answer, ok_Asker_answer T D_Asker_need D_Asker__next_step F_Asker_answer⟩⟩
  have D_Asker_show : Mtd P w K mg base CX0 7 (cs K).Asker "show" p_Asker_show (sp_Asker_show P w K (cs K)) := ⟨⟨_, fd_Asker_show, He.meth_ok (c.fact 110 (f := .meth "Asker" "show") rfl), B_Asker_show, ok_Asker_show T D_Asker_need D_is_word_asker D_digits_of D_Asker__next_step F_Asker_show⟩⟩
  have D_Asker_init : Mkd P w K mg base CX0 7 "Asker" (cs K).Asker p_Asker_init (sp_Asker_init P w K (cs K)) := ⟨⟨_, fd_Asker_init, He.glo_ok X G (c.fact 25 (f := .glo "Asker") rfl), He.mkr_ok (c.fact 64 (f := .mkr "Asker") rfl), B_Asker_init, ok_Asker_init T D_read_known D_Table_init D_Asker__next_step F_Asker_init⟩⟩
  have D_ChangedAsker_init : Mkd P w K mg base CX0 9 "ChangedAsker" (cs K).ChangedAsker p_ChangedAsker_init (sp_ChangedAsker_init P w K (cs K)) := ⟨⟨_, fd_ChangedAsker_init, He.glo_ok X G (c.fact 26 (f := .glo "ChangedAsker") rfl), He.mkr_ok (c.fact 79 (f := .mkr "ChangedAsker") rfl), B_ChangedAsker_init, ok_ChangedAsker_init T D_check_machine D_Asker_init D_least F_ChangedAsker_init⟩⟩
  have D_ChangedAsker_step : Mtd P w K mg base CX0 2 (cs K).ChangedAsker "step" p_ChangedAsker_step (sp_ChangedAsker_step P w K (cs K)) := ⟨⟨_, fd_ChangedAsker_step, He.meth_ok (c.fact 118 (f := .meth "ChangedAsker" "step") rfl), B_ChangedAsker_step, ok_ChangedAsker_step T D_Asker_step F_ChangedAsker_step⟩⟩
  have D_ChangedAsker_answer : Mtd P w K mg base CX0 8 (cs K).ChangedAsker "answer" p_ChangedAsker_answer (sp_ChangedAsker_answer P w K (cs K)) := ⟨⟨_, fd_ChangedAsker_answer, He.meth_ok (c.fact 119 (f := .meth "ChangedAsker" "answer") rfl), B_ChangedAsker_answer, ok_ChangedAsker_answer T D_Asker_answer F_ChangedAsker_answer⟩⟩
  have D_ChangedAsker_accept : Mtd P w K mg base CX0 3 (cs K).ChangedAsker "accept" p_ChangedAsker_accept (sp_ChangedAsker_accept P w K (cs K)) := ⟨⟨_, fd_ChangedAsker_accept, He.meth_ok (c.fact 120 (f := .meth "ChangedAsker" "accept") rfl), B_ChangedAsker_accept, ok_ChangedAsker_accept T D_Asker_accept F_ChangedAsker_accept⟩⟩
  have D_ChangedAsker_show : Mtd P w K mg base CX0 8 (cs K).ChangedAsker "show" p_ChangedAsker_show (sp_ChangedAsker_show P w K (cs K)) := ⟨⟨_, fd_ChangedAsker_show, He.meth_ok (c.fact 121 (f := .meth "ChangedAsker" "show") rfl), B_ChangedAsker_show, ok_ChangedAsker_show T D_Asker_show F_ChangedAsker_show⟩⟩
  have D_ChangedAsker_report : Mtd P w K mg base CX0 2 (cs K).ChangedAsker "report" p_ChangedAsker_report (sp_ChangedAsker_report P w K (cs K)) := ⟨⟨_, fd_ChangedAsker_report, He.meth_ok (c.fact 122 (f := .meth "ChangedAsker" "report") rfl), B_ChangedAsker_report, ok_ChangedAsker_report T D_Asker_report F_ChangedAsker_report⟩⟩
  have D_check_kind : Dfn P w K mg base CX0 1 "check_kind" p_check_kind (sp_check_kind P w K (cs K)) := ⟨⟨_, fd_check_kind, He.glo_ok X G (c.fact 10 (f := .glo "check_kind") rfl), F_check_kind.kp, B_check_kind, ok_check_kind T F_check_kind⟩⟩
  have D_search : Dfn P w K mg base CX0 1 "search" p_search (sp_search P w K (cs K)) := ⟨⟨_, fd_search, He.glo_ok X G (c.fact 9 (f := .glo "search") rfl), F_search.kp, B_search, ok_search T F_search⟩⟩
  have D_Choices_init : Mkd P w K mg base CX0 1 "Choices" (cs K).Choices p_Choices_init (sp_Choices_init P w K (cs K)) := ⟨⟨_, fd_Choices_init, He.glo_ok X G (c.fact 27 (f := .glo "Choices") rfl), He.mkr_ok (c.fact 85 (f := .mkr "Choices") rfl), B_Choices_init, ok_Choices_init T F_Choices_init⟩⟩
  have D_Choices__extend : Mtd P w K mg base CX0 1 (cs K).Choices "_extend" p_Choices__extend (sp_Choices__extend P w K (cs K)) := ⟨⟨_, fd_Choices__extend, He.meth_ok (c.fact 123 (f := .meth "Choices" "_extend") rfl), B_Choices__extend, ok_Choices__extend T F_Choices__extend⟩⟩
  have D_Choices__find : Mtd P w K mg base CX0 60 (cs K).Choices "_find" p_Choices__find (sp_Choices__find P w K (cs K)) := ⟨⟨_, fd_Choices__find, He.meth_ok (c.fact 125 (f := .meth "Choices" "_find") rfl), B_Choices__find, ok_Choices__find T F_Choices__find (He.meth_ok (c.fact 125 (f := .meth "Choices" "_find") rfl)) B_Choices__find⟩⟩
  have D_Choices_words : Mtd P w K mg base CX0 61 (cs K).Choices "words" p_Choices_words (sp_Choices_words P w K (cs K)) := ⟨⟨_, fd_Choices_words, He.meth_ok (c.fact 124 (f := .meth "Choices" "words") rfl), B_Choices_words, ok_Choices_words T D_Choices__extend D_Choices__find F_Choices_words⟩⟩
  have D_Honest_init : Mkd P w K mg base CX0 3 "Honest" (cs K).Honest p_Honest_init (sp_Honest_init P w K (cs K)) := ⟨⟨_, fd_Honest_init, He.glo_ok X G (c.fact 28 (f := .glo "Honest") rfl), He.mkr_ok (c.fact 90 (f := .mkr "Honest") rfl), B_Honest_init, ok_Honest_init T D_check_machine F_Honest_init⟩⟩
  have D_Honest__next_pick : Mtd P w K mg base CX0 1 (cs K).Honest "_next_pick" p_Honest__next_pick (sp_Honest__next_pick P w K (cs K)) := ⟨⟨_, fd_Honest__next_pick, He.meth_ok (c.fact 126 (f := .meth "Honest" "_next_pick") rfl), B_Honest__next_pick, ok_Honest__next_pick T F_Honest__next_pick⟩⟩
  have D_first_difference : Dfn P w K mg base (L2.CX P w) 2 "first_difference" p_first_difference (sp_first_difference P w K (cs K)) := ⟨⟨_, fd_first_difference, He.glo_ok X G (c.fact 11 (f := .glo "first_difference") rfl), F_first_difference.kp, B_first_difference, ok_first_difference T AL D_check_kind D_search F_first_difference⟩⟩
  have D_Honest_judge : Mtd P w K mg base CX0 62 (cs K).Honest "judge" p_Honest_judge (sp_Honest_judge P w K (cs K)) := ⟨⟨_, fd_Honest_judge, He.meth_ok (c.fact 127 (f := .meth "Honest" "judge") rfl), B_Honest_judge, ok_Honest_judge T AL D_check_machine D_first_difference D_Choices_init D_Choices_words D_Honest__next_pick F_Honest_judge⟩⟩
  have D_law_row : Dfn P w K mg base CX0 1 "_law_row" p_law_row (sp_law_row P w K (cs K)) := ⟨⟨_, fd_law_row, He.glo_ok X G (c.fact 12 (f := .glo "_law_row") rfl), F_law_row.kp, B_law_row, ok_law_row T F_law_row⟩⟩
  have D_law_at : Dfn P w K mg base CX0 1 "_law_at" p_law_at (sp_law_at P w K (cs K)) := ⟨⟨_, fd_law_at, He.glo_ok X G (c.fact 13 (f := .glo "_law_at") rfl), F_law_at.kp, B_law_at, ok_law_at T F_law_at⟩⟩
  have D_law_state : Dfn P w K mg base CX0 1 "_law_state" p_law_state (sp_law_state P w K (cs K)) := ⟨⟨_, fd_law_state, He.glo_ok X G (c.fact 15 (f := .glo "_law_state") rfl), F_law_state.kp, B_law_state, ok_law_state T F_law_state⟩⟩
  have D_law_output : Dfn P w K mg base CX0 2 "_law_output" p_law_output (sp_law_output P w K (cs K)) := ⟨⟨_, fd_law_output, He.glo_ok X G (c.fact 16 (f := .glo "_law_output") rfl), F_law_output.kp, B_law_output, ok_law_output T D_law_state F_law_output⟩⟩
  have D_law_digits : Dfn P w K mg base CX0 1 "_law_digits" p_law_digits (sp_law_digits P w K (cs K)) := ⟨⟨_, fd_law_digits, He.glo_ok X G (c.fact 19 (f := .glo "_law_digits") rfl), F_law_digits.kp, B_law_digits, ok_law_digits T F_law_digits⟩⟩
  have D_law_bound : Dfn P w K mg base CX0 2 "_law_bound" p_law_bound (sp_law_bound P w K (cs K)) := ⟨⟨_, fd_law_bound, He.glo_ok X G (c.fact 20 (f := .glo "_law_bound") rfl), F_law_bound.kp, B_law_bound, ok_law_bound T D_law_digits F_law_bound⟩⟩
  have D_law_machine : Dfn P w K mg base CX0 2 "_law_machine" p_law_machine (sp_law_machine P w K (cs K)) := ⟨⟨_, fd_law_machine, He.glo_ok X G (c.fact 14 (f := .glo "_law_machine") rfl), F_law_machine.kp, B_law_machine, ok_law_machine T D_law_at F_law_machine⟩⟩
  have D_law_classes : Dfn P w K mg base CX0 1 "_law_classes" p_law_classes (sp_law_classes P w K (cs K)) := ⟨⟨_, fd_law_classes, He.glo_ok X G (c.fact 17 (f := .glo "_law_classes") rfl), F_law_classes.kp, B_law_classes, ok_law_classes T F_law_classes⟩⟩
  have D_law_least : Dfn P w K mg base CX0 2 "_law_least" p_law_least (sp_law_least P w K (cs K)) := ⟨⟨_, fd_law_least, He.glo_ok X G (c.fact 18 (f := .glo "_law_least") rfl), F_law_least.kp, B_law_least, ok_law_least T D_law_classes F_law_least⟩⟩
  have D_law_was : Dfn P w K mg base CX0 3 "_law_was" p_law_was (sp_law_was P w K (cs K)) := ⟨⟨_, fd_law_was, He.glo_ok X G (c.fact 21 (f := .glo "_law_was") rfl), F_law_was.kp, B_law_was, ok_law_was T D_law_at D_law_machine F_law_was⟩⟩
  exact ok_law T D_law_row D_law_at D_law_machine D_law_was D_law_least D_Honest_init D_ChangedAsker_init D_ChangedAsker_step D_ChangedAsker_report D_ChangedAsker_answer D_law_output D_Honest_judge D_ChangedAsker_accept D_ChangedAsker_show D_law_bound F
end
end Hd
set_option maxHeartbeats 0
/-! ## E1 -/
open PySem PySem.W PySem.Calls PyProof.Rows
set_option maxRecDepth 100000 in
set_option maxHeartbeats 0 in
theorem PySem.Challenge.cw_maieutic_k72_whole_changed_machines_holds : PySem.Challenge.rw_maieutic_k72_whole_changed_machines.Holds := by
  w_on; o_law
  refine HandSHeadRun.head_any (r := OpenLaw.row PySem.Challenge.rw_maieutic_k72_whole_changed_machines) (q := view (OpenLaw.row PySem.Challenge.rw_maieutic_k72_whole_changed_machines).prog [60]) (H := Hd.hk) (ob := Hd.ob) (M := 5200) (loose := Hd.lo) (d := HandSHeadRun.topDef (OpenLaw.row PySem.Challenge.rw_maieutic_k72_whole_changed_machines).prog 60) (kwd := []) Hd.ob_eq
    (by kernel_rfl) (fun s => by kernel_rfl) Hd.run (by kernel_rfl) (by kernel_rfl) (by kernel_rfl) (by rfl) (by first | assumption | decide +kernel) (by decide +kernel) ⟨rfl, rfl, rfl, rfl, rfl, by decide +kernel⟩ ?hw ?hc
  case hw => w_witness2
  case hc =>
    refine L2.walk_ofE (l := PySem.Challenge.rw_maieutic_k72_whole_changed_machines) (n := 63) (k := 63) (x := "_law_script") (CX := L2.CX0) rfl (by decide) (by kernel_rfl) ⟨rfl, by decide, by decide⟩ ?F (fun _ _ _ _ z => z)
    intro w mg fa h Y G hmg0
    obtain ⟨K, KX, c⟩ := Y
    have hmg : mg ("law" : PySem.Str) = some (.ref fa) := by
      have e : (HandSHeadRun.topDef (OpenLaw.row PySem.Challenge.rw_maieutic_k72_whole_changed_machines).prog 60).name = ("law" : PySem.Str) := by kernel_rfl
      rw [← e]
      exact hmg0
    obtain ⟨fd, hb, hF⟩ := Hd.facts (P := (PySem.Challenge.rw_maieutic_k72_whole_changed_machines).prog) (w := w) KX G hmg c
    exact ⟨K, fd, MW.sp_law _ w K (Hd.cs K), KX, hb, fun H a ns hl _ hS => ⟨a, ns, rfl, hS, hl, fun _ => rfl⟩, hF⟩
