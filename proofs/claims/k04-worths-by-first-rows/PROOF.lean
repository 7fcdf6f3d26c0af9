import PyProof.Rows.All
import HandS.EndBits
import Wide.All
import OpenK.AllK
import Wide.FinOn
import HandS.ForMost
import HandS.ForExc
import HandS.Wide
import HandS.IsInst
import HandS.Conv
import HandS.Deep
import HandS.Iter
import HandS.Style
import PySem.Challenge.RW_treetally_k04_worths_by_first_rows
set_option Elab.async false
set_option linter.all false
set_option maxRecDepth 100000
set_option maxHeartbeats 4000000

/-! nets: what hangs together -/
namespace TT
abbrev Tie := Nat × Nat
/-- ties lead from a to b -/
inductive Cn (ts : List Tie) : Nat → Nat → Prop
  | refl (a : Nat) : Cn ts a a
  | step {a b c : Nat} : Cn ts a b → (b, c) ∈ ts ∨ (c, b) ∈ ts → Cn ts a c
namespace Cn
variable {ts us : List Tie} {a b c : Nat}
theorem trans (h : Cn ts a b) (k : Cn ts b c) : Cn ts a c := by
  induction k with
  | refl => exact h
  | step _ e ih => exact .step ih e
theorem tie (h : (a, b) ∈ ts) : Cn ts a b := .step (.refl a) (.inl h)
theorem symm (h : Cn ts a b) : Cn ts b a := by
  induction h with
  | refl => exact .refl _
  | step _ e ih => exact Cn.trans (.step (.refl _) e.symm) ih
theorem mono (h : Cn ts a b) (k : ∀ t, t ∈ ts → t ∈ us) : Cn us a b := by
  induction h with
  | refl => exact .refl _
  | step _ e ih => exact .step ih (e.imp (k _) (k _))
theorem nil (h : Cn [] a b) : a = b := by
  induction h with
  | refl => rfl
  | step _ e ih => rcases e with e | e <;> cases e
/-- with one tie more -/
theorem cons {x y : Nat} (h : Cn ((x, y) :: ts) a b) : Cn ts a b ∨ (Cn ts a x ∧ Cn ts y b) ∨ (Cn ts a y ∧ Cn ts x b) := by
  induction h with
  | refl => exact .inl (.refl _)
  | @step p q _ e ih =>
    have one : ∀ {p q : Nat}, (p, q) ∈ (x, y) :: ts → (p = x ∧ q = y) ∨ (p, q) ∈ ts := fun {p q} h => by
      rcases List.mem_cons.mp h with h | h
      · exact .inl ⟨congrArg Prod.fst h, congrArg Prod.snd h⟩
      · exact .inr h
    have e' : ((p = x ∧ q = y) ∨ (p = y ∧ q = x)) ∨ ((p, q) ∈ ts ∨ (q, p) ∈ ts) := by
      rcases e with e | e
      · rcases one e with e | e
        · exact .inl (.inl e)
        · exact .inr (.inl e)
      · rcases one e with e | e
        · exact .inl (.inr ⟨e.2, e.1⟩)
        · exact .inr (.inr e)
    rcases e' with (⟨rfl, rfl⟩ | ⟨rfl, rfl⟩) | e
    · rcases ih with h | ⟨h, _⟩ | ⟨h, _⟩
      · exact .inr (.inl ⟨h, .refl _⟩)
      · exact .inr (.inl ⟨h, .refl _⟩)
      · exact .inl h
    · rcases ih with h | ⟨h, _⟩ | ⟨h, _⟩
      · exact .inr (.inr ⟨h, .refl _⟩)
      · exact .inl h
      · exact .inr (.inr ⟨h, .refl _⟩)
    · rcases ih with h | ⟨h, k⟩ | ⟨h, k⟩
      · exact .inl (.step h e)
      · exact .inr (.inl ⟨h, .step k e⟩)
      · exact .inr (.inr ⟨h, .step k e⟩)
theorem of_cons {x y : Nat} (h : Cn ts a b ∨ (Cn ts a x ∧ Cn ts y b) ∨ (Cn ts a y ∧ Cn ts x b)) : Cn ((x, y) :: ts) a b := by
  have w : ∀ {p q : Nat}, Cn ts p q → Cn ((x, y) :: ts) p q := fun h => h.mono fun _ => List.mem_cons_of_mem _
  have e : Cn ((x, y) :: ts) x y := tie List.mem_cons_self
  rcases h with h | ⟨h, k⟩ | ⟨h, k⟩
  · exact w h
  · exact (w h).trans (e.trans (w k))
  · exact (w h).trans (e.symm.trans (w k))
theorem cons_iff {x y : Nat} : Cn ((x, y) :: ts) a b ↔ Cn ts a b ∨ (Cn ts a x ∧ Cn ts y b) ∨ (Cn ts a y ∧ Cn ts x b) := ⟨cons, of_cons⟩
theorem iff_of_mem (k : ∀ t, t ∈ ts ↔ t ∈ us) : Cn ts a b ↔ Cn us a b := ⟨fun h => h.mono fun t => (k t).mp, fun h => h.mono fun t => (k t).mpr⟩
/-- places stay below n -/
theorem lt {n : Nat} (hb : ∀ t, t ∈ ts → t.1 < n ∧ t.2 < n) (h : Cn ts a b) (ha : a < n) : b < n := by
  induction h with
  | refl => exact ha
  | step _ e _ => rcases e with e | e
                  · exact (hb _ e).2
                  · exact (hb _ e).1
end Cn
/-- what the program's marks do at one tie -/
def mstep (m : List Nat) (t : Tie) : List Nat := m.map fun v => if v = max (m.getD t.1 0) (m.getD t.2 0) then min (m.getD t.1 0) (m.getD t.2 0) else v
def marks (n : Nat) (ts : List Tie) : List Nat := ts.foldl mstep (List.range n)
/-- marks as they stand behind the ties ts -/
structure MkOk (n : Nat) (ts : List Tie) (m : List Nat) : Prop where
  len : m.length = n
  le : ∀ a, a < n → m.getD a 0 ≤ a
  own : ∀ a, a < n → Cn ts a (m.getD a 0)
  iff : ∀ a b, a < n → b < n → (m.getD a 0 = m.getD b 0 ↔ Cn ts a b)
theorem getD_map {α β : Type} (f : α → β) : ∀ (l : List α) (i : Nat) (d : α) (e : β), i < l.length → (l.map f).getD i e = f (l.getD i d)
  | [], i, _, _, h => absurd h (Nat.not_lt_zero i)
  | x :: l, 0, _, _, _ => rfl
  | x :: l, i + 1, d, e, h => getD_map f l i d e (Nat.lt_of_succ_lt_succ h)
theorem getD_range {n i : Nat} (h : i < n) : (List.range n).getD i 0 = i := by
  rw [List.getD_eq_getElem?_getD, List.getElem?_range h]; rfl
theorem MkOk.start (n : Nat) : MkOk n [] (List.range n) where
  len := List.length_range
  le := fun a h => by rw [getD_range h]; exact Nat.le_refl a
  own := fun a h => by rw [getD_range h]; exact .refl a
  iff := fun a b ha hb => by
    rw [getD_range ha, getD_range hb]
    exact ⟨fun e => e ▸ .refl a, fun h => h.nil⟩
theorem MkOk.turn {n : Nat} {ts : List Tie} {m : List Nat} (M : MkOk n ts m) {t : Tie} (h1 : t.1 < n) (h2 : t.2 < n) : MkOk n (t :: ts) (mstep m t) := by
  obtain ⟨x, y⟩ := t
  have g : ∀ a, a < n → (mstep m (x, y)).getD a 0 = if m.getD a 0 = max (m.getD x 0) (m.getD y 0) then min (m.getD x 0) (m.getD y 0) else m.getD a 0 := fun a ha => getD_map _ m a 0 0 (by rw [M.len]; exact ha)
  have h1 : x < n := h1
  have h2 : y < n := h2
  have up : ∀ {p q : Nat}, Cn ts p q → Cn ((x, y) :: ts) p q := fun h => h.mono fun _ => List.mem_cons_of_mem _
  have xy : Cn ((x, y) :: ts) x y := .tie List.mem_cons_self
  refine ⟨by unfold mstep; rw [List.length_map]; exact M.len, fun a ha => ?_, fun a ha => ?_, fun a b ha hb => ?_⟩
  · rw [g a ha]
    have := M.le a ha
    split
    · rename_i e
      omega
    · exact this
  · rw [g a ha]
    split
    · rename_i e
      rcases Nat.le_total (m.getD x 0) (m.getD y 0) with l | l
      · rw [Nat.max_eq_right l] at e
        rw [Nat.min_eq_left l]
        have q := (M.iff a y ha h2).mp e
        exact (up q).trans (xy.symm.trans (up (M.own x h1)))
      · rw [Nat.max_eq_left l] at e
        rw [Nat.min_eq_right l]
        have q := (M.iff a x ha h1).mp e
        exact (up q).trans (xy.trans (up (M.own y h2)))
    · exact up (M.own a ha)
  · rw [g a ha, g b hb, Cn.cons_iff, ← M.iff a b ha hb, ← M.iff a x ha h1, ← M.iff y b h2 hb, ← M.iff a y ha h2, ← M.iff x b h1 hb]
    generalize m.getD a 0 = A
    generalize m.getD b 0 = B
    generalize m.getD x 0 = X
    generalize m.getD y 0 = Y
    rcases Nat.le_total X Y with l | l
    · rw [Nat.max_eq_right l, Nat.min_eq_left l]
      repeat' split
      all_goals omega
    · rw [Nat.max_eq_left l, Nat.min_eq_right l]
      repeat' split
      all_goals omega
theorem MkOk.perm {n : Nat} {ts us : List Tie} {m : List Nat} (M : MkOk n ts m) (k : ∀ t, t ∈ ts ↔ t ∈ us) : MkOk n us m :=
  ⟨M.len, M.le, fun a h => (Cn.iff_of_mem k).mp (M.own a h), fun a b h h' => (M.iff a b h h').trans (Cn.iff_of_mem k)⟩
theorem marks_fold {n : Nat} : ∀ (us ts : List Tie) (m : List Nat), MkOk n ts m → (∀ t, t ∈ us → t.1 < n ∧ t.2 < n) → MkOk n (us.reverse ++ ts) (us.foldl mstep m)
  | [], _, _, M, _ => M
  | t :: us, ts, m, M, h => by
    have q := marks_fold us (t :: ts) (mstep m t) (M.turn (h t List.mem_cons_self).1 (h t List.mem_cons_self).2) fun t ht => h t (List.mem_cons_of_mem _ ht)
    rw [List.reverse_cons, List.append_assoc]
    exact q
theorem marks_ok {n : Nat} {ts : List Tie} (h : ∀ t, t ∈ ts → t.1 < n ∧ t.2 < n) : MkOk n ts (marks n ts) :=
  (marks_fold ts [] (List.range n) (MkOk.start n) h).perm fun t => by rw [List.append_nil, List.mem_reverse]
/-- all places hang together -/
def Conn (n : Nat) (ts : List Tie) : Prop := ∀ a, a < n → Cn ts 0 a
end TT

/-! determinants by the first row, in plain Lean -/
namespace TT
def sumTo : Nat → (Nat → Int) → Int
  | 0, _ => 0
  | n + 1, f => sumTo n f + f n
theorem sumTo_congr : ∀ {n : Nat} {f g : Nat → Int}, (∀ i, i < n → f i = g i) → sumTo n f = sumTo n g
  | 0, _, _, _ => rfl
  | n + 1, f, g, h => by
    show sumTo n f + f n = sumTo n g + g n
    rw [sumTo_congr (fun i hi => h i (Nat.lt_succ_of_lt hi)), h n (Nat.lt_succ_self n)]
theorem sumTo_zero : ∀ {n : Nat} {f : Nat → Int}, (∀ i, i < n → f i = 0) → sumTo n f = 0
  | 0, _, _ => rfl
  | n + 1, f, h => by
    show sumTo n f + f n = 0
    rw [sumTo_zero (fun i hi => h i (Nat.lt_succ_of_lt hi)), h n (Nat.lt_succ_self n)]
    rfl
theorem sumTo_add : ∀ (n : Nat) (f g : Nat → Int), sumTo n (fun i => f i + g i) = sumTo n f + sumTo n g
  | 0, _, _ => rfl
  | n + 1, f, g => by
    show sumTo n (fun i => f i + g i) + (f n + g n) = (sumTo n f + f n) + (sumTo n g + g n)
    rw [sumTo_add n f g]; omega
theorem sumTo_mul : ∀ (n : Nat) (a : Int) (f : Nat → Int), sumTo n (fun i => a * f i) = a * sumTo n f
  | 0, a, _ => (Int.mul_zero a).symm
  | n + 1, a, f => by
    show sumTo n (fun i => a * f i) + a * f n = a * (sumTo n f + f n)
    rw [sumTo_mul n a f, Int.mul_add]
theorem sumTo_neg (n : Nat) (f : Nat → Int) : sumTo n (fun i => - f i) = - sumTo n f := by
  have h := sumTo_mul n (-1) f
  have e : (fun i => (-1 : Int) * f i) = fun i => - f i := funext fun i => by rw [Int.neg_one_mul]
  rw [e] at h
  rw [h, Int.neg_one_mul]
theorem sumTo_comm : ∀ (n m : Nat) (f : Nat → Nat → Int), sumTo n (fun i => sumTo m (f i)) = sumTo m (fun j => sumTo n (fun i => f i j))
  | 0, m, _ => (sumTo_zero (n := m) fun _ _ => rfl).symm
  | n + 1, m, f => by
    show sumTo n (fun i => sumTo m (f i)) + sumTo m (f n) = sumTo m (fun j => sumTo n (fun i => f i j) + f n j)
    rw [sumTo_comm n m f, sumTo_add]
theorem sumTo_one : ∀ {n c : Nat} {f : Nat → Int}, c < n → (∀ i, i < n → i ≠ c → f i = 0) → sumTo n f = f c
  | 0, c, _, h, _ => absurd h (Nat.not_lt_zero c)
  | n + 1, c, f, h, hz => by
    show sumTo n f + f n = f c
    by_cases e : c = n
    · subst e
      rw [sumTo_zero (fun i hi => hz i (Nat.lt_succ_of_lt hi) (Nat.ne_of_lt hi))]; omega
    · rw [sumTo_one (c := c) (by omega) (fun i hi => hz i (Nat.lt_succ_of_lt hi)), hz n (Nat.lt_succ_self n) (fun z => e z.symm)]; omega
/-- one shifted -/
theorem sumTo_succ' : ∀ (n : Nat) (f : Nat → Int), sumTo (n + 1) f = f 0 + sumTo n (fun i => f (i + 1))
  | 0, f => by show 0 + f 0 = f 0 + 0; omega
  | n + 1, f => by
    show sumTo (n + 1) f + f (n + 1) = f 0 + (sumTo n (fun i => f (i + 1)) + f (n + 1))
    rw [sumTo_succ' n f]; omega

/-- the place j when place c is left out -/
def skip (c j : Nat) : Nat := if j < c then j else j + 1
def unskip (c j : Nat) : Nat := if j < c then j else j - 1
theorem skip_ne (c j : Nat) : skip c j ≠ c := by unfold skip; split <;> omega
theorem unskip_skip (c j : Nat) : unskip c (skip c j) = j := by
  unfold skip unskip
  repeat' split
  all_goals omega
theorem skip_unskip {c j : Nat} (h : j ≠ c) : skip c (unskip c j) = j := by
  unfold skip unskip
  repeat' split
  all_goals omega
theorem skip_lt {c j n : Nat} (h : j < n) : skip c j < n + 1 := by unfold skip; split <;> omega
theorem unskip_lt {c j n : Nat} (hc : c < n + 1) (h : j < n + 1) (hne : j ≠ c) : unskip c j < n := by unfold unskip; split <;> omega
theorem skip_inj {c i j : Nat} (h : skip c i = skip c j) : i = j := by rw [← unskip_skip c i, h, unskip_skip]
theorem sumTo_skip : ∀ (n c : Nat) (f : Nat → Int), c < n + 1 → sumTo n (fun d => f (skip c d)) = sumTo (n + 1) f - f c
  | 0, c, f, h => by
    obtain rfl : c = 0 := by omega
    show (0 : Int) = 0 + f 0 - f 0
    omega
  | n + 1, c, f, h => by
    by_cases e : c = n + 1
    · subst e
      have q : sumTo (n + 1) (fun d => f (skip (n + 1) d)) = sumTo (n + 1) f := sumTo_congr fun i hi => by unfold skip; rw [if_pos hi]
      rw [q]
      show sumTo (n + 1) f = sumTo (n + 1) f + f (n + 1) - f (n + 1)
      omega
    · have ih := sumTo_skip n c f (by omega)
      have q : skip c n = n + 1 := by unfold skip; rw [if_neg (by omega)]
      show sumTo n (fun d => f (skip c d)) + f (skip c n) = sumTo (n + 1) f + f (n + 1) - f c
      rw [ih, q]; omega

def sgn (c : Nat) : Int := if c % 2 = 0 then 1 else -1
theorem sgn_succ (c : Nat) : sgn (c + 1) = - sgn c := by
  unfold sgn
  by_cases h : c % 2 = 0
  · rw [if_pos h, if_neg (by omega)]
  · rw [if_neg h, if_pos (by omega)]; rfl
theorem sgn_sq (c : Nat) : sgn c * sgn c = 1 := by unfold sgn; split <;> rfl
abbrev Mat := Nat → Nat → Int
/-- what is left of M without row 0 and column c -/
def minor (M : Mat) (c : Nat) : Mat := fun i j => M (i + 1) (skip c j)
def det : Nat → Mat → Int
  | 0, _ => 1
  | n + 1, M => sumTo (n + 1) fun c => sgn c * M 0 c * det n (minor M c)
theorem det_succ (n : Nat) (M : Mat) : det (n + 1) M = sumTo (n + 1) fun c => sgn c * M 0 c * det n (minor M c) := rfl
theorem det_congr : ∀ {n : Nat} {M N : Mat}, (∀ i j, i < n → j < n → M i j = N i j) → det n M = det n N
  | 0, _, _, _ => rfl
  | n + 1, M, N, h => by
    rw [det_succ, det_succ]
    refine sumTo_congr fun c hc => ?_
    rw [h 0 c (Nat.succ_pos n) hc, det_congr (n := n) (M := minor M c) (N := minor N c) fun i j hi hj => h (i + 1) (skip c j) (Nat.succ_lt_succ hi) (skip_lt hj)]
/-- row r is u -/
def setRow (M : Mat) (r : Nat) (u : Nat → Int) : Mat := fun i j => if i = r then u j else M i j
theorem minor_set0 (M : Mat) (u : Nat → Int) (c : Nat) : minor (setRow M 0 u) c = minor M c := by
  funext i j
  show (if i + 1 = 0 then u (skip c j) else M (i + 1) (skip c j)) = M (i + 1) (skip c j)
  rw [if_neg (Nat.succ_ne_zero i)]
theorem minor_setS (M : Mat) (r : Nat) (u : Nat → Int) (c : Nat) : minor (setRow M (r + 1) u) c = setRow (minor M c) r (fun j => u (skip c j)) := by
  funext i j
  show (if i + 1 = r + 1 then u (skip c j) else M (i + 1) (skip c j)) = if i = r then u (skip c j) else M (i + 1) (skip c j)
  by_cases h : i = r
  · rw [if_pos h, if_pos (by omega)]
  · rw [if_neg h, if_neg (by omega)]
/-- linear in every row -/
theorem det_lin : ∀ (n r : Nat) (M : Mat) (a b : Int) (u v : Nat → Int), r < n → det n (setRow M r fun j => a * u j + b * v j) = a * det n (setRow M r u) + b * det n (setRow M r v)
  | 0, r, _, _, _, _, _, h => absurd h (Nat.not_lt_zero r)
  | n + 1, 0, M, a, b, u, v, _ => by
    rw [det_succ, det_succ, det_succ, ← sumTo_mul, ← sumTo_mul, ← sumTo_add]
    refine sumTo_congr fun c _ => ?_
    rw [minor_set0, minor_set0, minor_set0]
    show sgn c * (a * u c + b * v c) * det n (minor M c) = a * (sgn c * u c * det n (minor M c)) + b * (sgn c * v c * det n (minor M c))
    rw [Int.mul_add, Int.add_mul]
    congr 1 <;> ac_rfl
  | n + 1, r + 1, M, a, b, u, v, h => by
    rw [det_succ, det_succ, det_succ, ← sumTo_mul, ← sumTo_mul, ← sumTo_add]
    refine sumTo_congr fun c _ => ?_
    rw [minor_setS, minor_setS, minor_setS, det_lin n r (minor M c) a b (fun j => u (skip c j)) (fun j => v (skip c j)) (by omega)]
    show sgn c * M 0 c * _ = a * (sgn c * M 0 c * _) + b * (sgn c * M 0 c * _)
    rw [Int.mul_add]
    congr 1 <;> ac_rfl
theorem det_zero_row {n r : Nat} {M : Mat} (hr : r < n) (h : ∀ j, j < n → M r j = 0) : det n M = 0 := by
  have e : det n M = det n (setRow M r fun j => 0 * (0 : Int) + 0 * 0) := det_congr fun i j _ hj => by
    show M i j = if i = r then _ else M i j
    by_cases z : i = r
    · rw [if_pos z, z, h j hj]; rfl
    · rw [if_neg z]
  rw [e, det_lin n r M 0 0 (fun _ => 0) (fun _ => 0) hr]
  omega
def swapRows (M : Mat) (r s : Nat) : Mat := fun i j => M (if i = r then s else if i = s then r else i) j
/-- the term of the double expansion -/
def term2 (n : Nat) (M : Mat) (c e : Nat) : Int :=
  if e = c then 0 else sgn c * sgn (unskip c e) * (M 0 c * M 1 e) * det n (fun i j => M (i + 2) (skip c (skip (unskip c e) j)))
theorem det_two (n : Nat) (M : Mat) : det (n + 2) M = sumTo (n + 2) fun c => sumTo (n + 2) fun e => term2 n M c e := by
  rw [det_succ]
  refine sumTo_congr fun c hc => ?_
  have q : sumTo (n + 2) (fun e => term2 n M c e) = sumTo (n + 1) (fun d => term2 n M c (skip c d)) := by
    rw [sumTo_skip (n + 1) c (fun e => term2 n M c e) hc]
    have z : term2 n M c c = 0 := if_pos rfl
    rw [z]
    exact (Int.sub_zero _).symm
  rw [q, det_succ, ← sumTo_mul]
  refine sumTo_congr fun d _ => ?_
  unfold term2
  rw [if_neg (skip_ne c d), unskip_skip]
  show sgn c * M 0 c * (sgn d * M 1 (skip c d) * det n (minor (minor M c) d)) = sgn c * sgn d * (M 0 c * M 1 (skip c d)) * det n _
  have e : minor (minor M c) d = fun i j => M (i + 2) (skip c (skip d j)) := rfl
  rw [e]
  ac_rfl
theorem skip_skip {c e : Nat} (h : e ≠ c) (j : Nat) : skip c (skip (unskip c e) j) = skip e (skip (unskip e c) j) := by
  unfold skip unskip
  repeat' split
  all_goals omega
theorem sgn_two {c e : Nat} (h : e ≠ c) : sgn c * sgn (unskip c e) = - (sgn e * sgn (unskip e c)) := by
  unfold unskip
  by_cases z : e < c
  · rw [if_pos z, if_neg (by omega)]
    obtain ⟨d, rfl⟩ : ∃ d, c = d + 1 := ⟨c - 1, by omega⟩
    rw [show d + 1 - 1 = d from rfl, sgn_succ]
    rw [Int.neg_mul, Int.mul_comm]
  · rw [if_neg z, if_pos (by omega)]
    obtain ⟨d, rfl⟩ : ∃ d, e = d + 1 := ⟨e - 1, by omega⟩
    rw [show d + 1 - 1 = d from rfl, sgn_succ]
    rw [Int.neg_mul, Int.neg_neg, Int.mul_comm]
theorem term2_swap (n : Nat) (M : Mat) (c e : Nat) : term2 n (swapRows M 0 1) c e = - term2 n M e c := by
  unfold term2
  by_cases h : e = c
  · rw [if_pos h, if_pos h.symm]; rfl
  · rw [if_neg h, if_neg (fun z => h z.symm), sgn_two h]
    have q : (fun i j => swapRows M 0 1 (i + 2) (skip c (skip (unskip c e) j))) = fun i j => M (i + 2) (skip e (skip (unskip e c) j)) := by
      funext i j
      rw [← skip_skip h]
      rfl
    rw [q]
    show -(sgn e * sgn (unskip e c)) * (M 1 c * M 0 e) * _ = -(_ * (M 0 e * M 1 c) * _)
    rw [Int.neg_mul, Int.neg_mul, Int.mul_comm (M 1 c) (M 0 e)]
theorem det_swap01 (n : Nat) (M : Mat) : det (n + 2) (swapRows M 0 1) = - det (n + 2) M := by
  rw [det_two, det_two, sumTo_comm, ← sumTo_neg]
  refine sumTo_congr fun c _ => ?_
  rw [← sumTo_neg]
  exact sumTo_congr fun e _ => term2_swap n M e c
/-- neighbours change places -/
theorem det_swapN : ∀ (r n : Nat) (M : Mat), r + 1 < n → det n (swapRows M r (r + 1)) = - det n M
  | 0, n, M, h => by
    obtain ⟨m, rfl⟩ : ∃ m, n = m + 2 := ⟨n - 2, by omega⟩
    exact det_swap01 m M
  | r + 1, n, M, h => by
    obtain ⟨m, rfl⟩ : ∃ m, n = m + 1 := ⟨n - 1, by omega⟩
    rw [det_succ, det_succ, ← sumTo_neg]
    refine sumTo_congr fun c _ => ?_
    have q : minor (swapRows M (r + 1) (r + 1 + 1)) c = swapRows (minor M c) r (r + 1) := by
      funext i j
      show M (if i + 1 = r + 1 then r + 1 + 1 else if i + 1 = r + 1 + 1 then r + 1 else i + 1) (skip c j) = M ((if i = r then r + 1 else if i = r + 1 then r else i) + 1) (skip c j)
      congr 1
      repeat' split
      all_goals omega
    rw [q, det_swapN r m (minor M c) (by omega)]
    show sgn c * M 0 c * - _ = - (sgn c * M 0 c * _)
    rw [Int.mul_neg]
theorem det_swap_gap : ∀ (g r n : Nat) (M : Mat), r + g + 1 < n → det n (swapRows M r (r + g + 1)) = - det n M
  | 0, r, n, M, h => det_swapN r n M h
  | g + 1, r, n, M, h => by
    have e : swapRows M r (r + (g + 1) + 1) = swapRows (swapRows (swapRows M (r + g + 1) (r + g + 1 + 1)) r (r + g + 1)) (r + g + 1) (r + g + 1 + 1) := by
      funext i j
      unfold swapRows
      congr 1
      repeat' split
      all_goals omega
    rw [e, det_swapN _ n _ (by omega), det_swap_gap g r n _ (by omega), det_swapN _ n _ (by omega)]
    omega
theorem det_swap {n r s : Nat} (M : Mat) (hr : r < n) (hs : s < n) (h : r ≠ s) : det n (swapRows M r s) = - det n M := by
  by_cases z : r < s
  · have q := det_swap_gap (s - r - 1) r n M (by omega)
    rw [show r + (s - r - 1) + 1 = s from by omega] at q
    exact q
  · have q := det_swap_gap (r - s - 1) s n M (by omega)
    rw [show s + (r - s - 1) + 1 = r from by omega] at q
    have e : swapRows M r s = swapRows M s r := by
      funext i j
      unfold swapRows
      congr 1
      repeat' split
      all_goals omega
    rw [e]; exact q
/-- two rows alike -/
theorem det_alike {n r s : Nat} {M : Mat} (hr : r < n) (hs : s < n) (h : r ≠ s) (e : ∀ j, j < n → M r j = M s j) : det n M = 0 := by
  have q := det_swap M hr hs h
  have z : det n (swapRows M r s) = det n M := det_congr fun i j _ hj => by
    show M (if i = r then s else if i = s then r else i) j = M i j
    by_cases a : i = r
    · rw [if_pos a, a, e j hj]
    · rw [if_neg a]
      by_cases b : i = s
      · rw [if_pos b, b, e j hj]
      · rw [if_neg b]
  omega
end TT

namespace TT
/-- row s is nought but at t -/
theorem det_unit : ∀ (n s t : Nat) (M : Mat), s < n + 1 → t < n + 1 → (∀ j, j < n + 1 → j ≠ t → M s j = 0) →
    det (n + 1) M = sgn (s + t) * M s t * det n (fun i j => M (skip s i) (skip t j))
  | n, 0, t, M, _, ht, h => by
    rw [det_succ, sumTo_one ht fun c hc hne => by rw [h c hc hne]; simp]
    have e : (fun i j => M (skip 0 i) (skip t j)) = minor M t := by
      funext i j
      have q : skip 0 i = i + 1 := by unfold skip; rw [if_neg (Nat.not_lt_zero i)]
      rw [q]
      rfl
    rw [e, Nat.zero_add]
  | 0, s + 1, t, M, hs, _, _ => by omega
  | n + 1, s + 1, t, M, hs, ht, h => by
    rw [det_succ]
    have each : ∀ c, c < n + 1 + 1 → sgn c * M 0 c * det (n + 1) (minor M c) = if c = t then 0 else sgn (s + 1 + t) * M (s + 1) t * (sgn (unskip t c) * M 0 c * det n (fun i j => M (skip (s + 1) (i + 1)) (skip t (skip (unskip t c) j)))) := fun c hc => by
      by_cases e : c = t
      · rw [if_pos e, det_zero_row (n := n + 1) (r := s) (M := minor M c) (by omega) fun j hj => h (skip c j) (skip_lt hj) (by rw [e]; exact skip_ne t j)]
        exact Int.mul_zero _
      · rw [if_neg e]
        have ht' : unskip c t < n + 1 := unskip_lt hc ht fun z => e z.symm
        have ih := det_unit n s (unskip c t) (minor M c) (by omega) ht' fun j hj hne => h (skip c j) (skip_lt hj) fun z => hne (by rw [← z, unskip_skip])
        rw [ih]
        show sgn c * M 0 c * (sgn (s + unskip c t) * M (s + 1) (skip c (unskip c t)) * det n fun i j => M (skip s i + 1) (skip c (skip (unskip c t) j))) = _
        rw [skip_unskip (fun z => e z.symm)]
        have q1 : (fun i j => M (skip s i + 1) (skip c (skip (unskip c t) j))) = fun i j => M (skip (s + 1) (i + 1)) (skip t (skip (unskip t c) j)) := by
          funext i j
          rw [skip_skip (fun z => e z.symm)]
          congr 1
          unfold skip
          repeat' split
          all_goals omega
        rw [q1]
        have q2 : sgn c * sgn (s + unskip c t) = sgn (s + 1 + t) * sgn (unskip t c) := by
          have add : ∀ a b : Nat, sgn (a + b) = sgn a * sgn b := fun a b => by
            unfold sgn
            repeat' split
            all_goals first | rfl | omega
          rw [add, add, sgn_succ]
          have q := sgn_two e
          have r : sgn c * (sgn s * sgn (unskip c t)) = sgn s * (sgn c * sgn (unskip c t)) := by ac_rfl
          rw [r, sgn_two (fun z => e z.symm)]
          rw [Int.neg_mul, Int.neg_mul, Int.mul_neg]
          congr 1
          ac_rfl
        generalize det n (fun i j => M (skip (s + 1) (i + 1)) (skip t (skip (unskip t c) j))) = D
        calc sgn c * M 0 c * (sgn (s + unskip c t) * M (s + 1) t * D) = (sgn c * sgn (s + unskip c t)) * (M 0 c * M (s + 1) t * D) := by ac_rfl
          _ = (sgn (s + 1 + t) * sgn (unskip t c)) * (M 0 c * M (s + 1) t * D) := by rw [q2]
          _ = _ := by ac_rfl
    rw [sumTo_congr each]
    have back := sumTo_skip (n + 1) t (fun c => if c = t then (0 : Int) else sgn (s + 1 + t) * M (s + 1) t * (sgn (unskip t c) * M 0 c * det n (fun i j => M (skip (s + 1) (i + 1)) (skip t (skip (unskip t c) j))))) ht
    rw [if_pos rfl, Int.sub_zero] at back
    rw [← back, det_succ, ← sumTo_mul]
    refine sumTo_congr fun d _ => ?_
    rw [if_neg (skip_ne t d), unskip_skip]
    rfl
/-- the last row is nought but at its end -/
theorem det_last (n : Nat) (M : Mat) (h : ∀ j, j < n → M n j = 0) : det (n + 1) M = M n n * det n M := by
  rw [det_unit n n n M (Nat.lt_succ_self n) (Nat.lt_succ_self n) fun j hj hne => h j (by omega)]
  have e : sgn (n + n) = 1 := by unfold sgn; rw [if_pos (by omega)]
  rw [e, Int.one_mul]
  congr 1
  refine det_congr fun i j hi hj => ?_
  unfold skip
  rw [if_pos hi, if_pos hj]
/-- a whole column of noughts below: rows from k on are nought up to place k -/
theorem det_block : ∀ (n k : Nat) (M : Mat), k < n → (∀ i j, k ≤ i → i < n → j ≤ k → M i j = 0) → det n M = 0
  | 0, k, _, h, _ => absurd h (Nat.not_lt_zero k)
  | n + 1, 0, M, _, h => by
    rw [det_succ]
    refine sumTo_zero fun c hc => ?_
    by_cases z : c = 0
    · subst z
      rw [h 0 0 (Nat.le_refl 0) (Nat.succ_pos n) (Nat.le_refl 0)]; simp
    · have q : det n (minor M c) = 0 := det_block n 0 (minor M c) (by omega) fun i j _ hi hj => by
        have e : skip c j = 0 := by unfold skip; rw [if_pos (by omega)]; omega
        show M (i + 1) (skip c j) = 0
        rw [e]
        exact h (i + 1) 0 (Nat.zero_le _) (by omega) (Nat.le_refl 0)
      rw [q]; exact Int.mul_zero _
  | n + 1, k + 1, M, hk, h => by
    rw [det_succ]
    refine sumTo_zero fun c hc => ?_
    have q : det n (minor M c) = 0 := det_block n k (minor M c) (by omega) fun i j h1 h2 h3 => by
      refine h (i + 1) (skip c j) (by omega) (by omega) ?_
      unfold skip
      split <;> omega
    rw [q]; exact Int.mul_zero _
theorem natAbs_sumTo : ∀ (n B : Nat) (f : Nat → Int), (∀ i, i < n → (f i).natAbs ≤ B) → (sumTo n f).natAbs ≤ n * B
  | 0, B, _, _ => by show (0 : Int).natAbs ≤ _; simp
  | n + 1, B, f, h => by
    have ih := natAbs_sumTo n B f fun i hi => h i (Nat.lt_succ_of_lt hi)
    have a := h n (Nat.lt_succ_self n)
    have t := Int.natAbs_add_le (sumTo n f) (f n)
    show (sumTo n f + f n).natAbs ≤ _
    rw [Nat.add_mul, Nat.one_mul]
    omega
theorem sgn_abs (c : Nat) : (sgn c).natAbs = 1 := by unfold sgn; split <;> rfl
/-- how great it may be, up to eight rows -/
theorem det_bound : ∀ (n B : Nat) (M : Mat), n ≤ 8 → (∀ i j, i < n → j < n → (M i j).natAbs ≤ B) → (det n M).natAbs ≤ (8 * B) ^ n
  | 0, B, _, _, _ => by show (1 : Int).natAbs ≤ _; simp
  | n + 1, B, M, hn, h => by
    rw [det_succ]
    have q : ∀ c, c < n + 1 → (sgn c * M 0 c * det n (minor M c)).natAbs ≤ B * (8 * B) ^ n := fun c hc => by
      rw [Int.natAbs_mul, Int.natAbs_mul, sgn_abs, Nat.one_mul]
      exact Nat.mul_le_mul (h 0 c (Nat.succ_pos n) hc) (det_bound n B (minor M c) (by omega) fun i j hi hj => h (i + 1) (skip c j) (by omega) (skip_lt hj))
    have s := natAbs_sumTo (n + 1) _ _ q
    refine Nat.le_trans s ?_
    rw [Nat.pow_succ]
    have e : (8 * B) ^ n * (8 * B) = 8 * (B * (8 * B) ^ n) := by ac_rfl
    rw [e]
    exact Nat.mul_le_mul_right _ (by omega)
end TT

namespace TT
theorem det_lin_sum (n r : Nat) (hr : r < n) (M : Mat) (a : Int) (u : Nat → Int) (c : Nat → Int) (P : Mat) : ∀ k : Nat,
    det n (setRow M r fun j => a * u j + sumTo k fun t => c t * P t j) = a * det n (setRow M r u) + sumTo k fun t => c t * det n (setRow M r (P t))
  | 0 => by
    have e : (fun j => a * u j + sumTo 0 fun t => c t * P t j) = fun j => a * u j + 0 * u j := funext fun j => by show a * u j + 0 = _; omega
    rw [e, det_lin n r M a 0 u u hr]
    show _ = a * _ + 0
    omega
  | k + 1 => by
    have e : (fun j => a * u j + sumTo (k + 1) fun t => c t * P t j) = fun j => 1 * (a * u j + sumTo k fun t => c t * P t j) + c k * P k j := funext fun j => by
      show a * u j + (sumTo k (fun t => c t * P t j) + c k * P k j) = _
      omega
    rw [e, det_lin n r M 1 (c k) _ (P k) hr, det_lin_sum n r hr M a u c P k]
    show _ = a * _ + (sumTo k (fun t => c t * det n (setRow M r (P t))) + c k * _)
    omega
/-- where the elimination stands: R the rows, P the rows of M as they were exchanged -/
structure BInv (n at_ : Nat) (M R : Mat) (side last : Int) : Prop where
  ex : ∃ P : Mat, side * det n P = det n M ∧ side * side = 1 ∧ last = det at_ P ∧ last ≠ 0 ∧ (∀ i, i < n → ∃ i', i' < n ∧ ∀ j, P i j = M i' j) ∧
    ∀ i, at_ ≤ i → i < n → (∀ j, j < at_ → R i j = 0) ∧ ∃ (q : Int) (c : Nat → Int), q ≠ 0 ∧ ∀ j, j < n → q * R i j = q * last * P i j + sumTo at_ fun t => c t * P t j
theorem BInv.start (n : Nat) (M : Mat) : BInv n 0 M M 1 1 :=
  ⟨M, Int.one_mul _, rfl, rfl, by decide, fun i hi => ⟨i, hi, fun _ => rfl⟩, fun i _ _ => ⟨fun j h => absurd h (Nat.not_lt_zero j), 1, fun _ => 0, by decide, fun j _ => by show 1 * M i j = 1 * 1 * M i j + 0; omega⟩⟩
/-- the bordered part: rows 0 .. a-1 and i, columns 0 .. a-1 and j -/
def bord (P : Mat) (a i j : Nat) : Mat := fun r c => P (if r = a then i else r) (if c = a then j else c)
theorem bord_comb {n a i j : Nat} {P : Mat} {last q : Int} {u : Nat → Int} {c : Nat → Int} (ha : a < n) (hj : j < n) (hq : q ≠ 0) (h : ∀ j, j < n → q * u j = q * last * P i j + sumTo a fun t => c t * P t j) :
    det (a + 1) (setRow (bord P a i j) a fun k => u (if k = a then j else k)) = last * det (a + 1) (bord P a i j) := by
  have e1 : q * det (a + 1) (setRow (bord P a i j) a fun k => u (if k = a then j else k)) = det (a + 1) (setRow (bord P a i j) a fun k => q * last * (bord P a i j a k) + sumTo a fun t => c t * bord P a i j t k) := by
    have l := det_lin (a + 1) a (bord P a i j) q 0 (fun k => u (if k = a then j else k)) (fun k => u (if k = a then j else k)) (Nat.lt_succ_self a)
    rw [Int.zero_mul, Int.add_zero] at l
    rw [← l]
    refine det_congr fun r k _ hk => ?_
    show (if r = a then _ else _) = if r = a then _ else _
    by_cases z : r = a
    · rw [if_pos z, if_pos z]
      have hk' : (if k = a then j else k) < n := by split <;> omega
      have q1 := h _ hk'
      show q * u (if k = a then j else k) + 0 * u (if k = a then j else k) = q * last * P (if a = a then i else a) (if k = a then j else k) + sumTo a fun t => c t * P (if t = a then i else t) (if k = a then j else k)
      rw [Int.zero_mul, Int.add_zero, q1, if_pos rfl]
      congr 1
      refine sumTo_congr fun t ht => ?_
      rw [if_neg (Nat.ne_of_lt ht)]
    · rw [if_neg z, if_neg z]
  rw [det_lin_sum (a + 1) a (Nat.lt_succ_self a)] at e1
  have z : sumTo a (fun t => c t * det (a + 1) (setRow (bord P a i j) a (bord P a i j t))) = 0 := sumTo_zero fun t ht => by
    rw [det_alike (n := a + 1) (r := t) (s := a) (by omega) (by omega) (by omega) fun k _ => ?_]
    · exact Int.mul_zero _
    · show (if t = a then _ else bord P a i j t k) = if a = a then bord P a i j t k else _
      rw [if_neg (by omega), if_pos rfl]
  have s : setRow (bord P a i j) a (bord P a i j a) = bord P a i j := by
    funext r k
    show (if r = a then bord P a i j a k else bord P a i j r k) = _
    by_cases y : r = a
    · rw [if_pos y, y]
    · rw [if_neg y]
  rw [z, s, Int.add_zero, Int.mul_assoc] at e1
  exact Int.eq_of_mul_eq_mul_left hq e1
theorem bord_lead {a i j : Nat} {P : Mat} {u : Nat → Int} (hu : ∀ k, k < a → u k = 0) : det (a + 1) (setRow (bord P a i j) a fun k => u (if k = a then j else k)) = u j * det a P := by
  rw [det_last a _ fun k hk => ?_]
  · show (if a = a then u (if a = a then j else a) else _) * _ = _
    rw [if_pos rfl, if_pos rfl]
    congr 1
    refine det_congr fun r k hr hk => ?_
    show (if r = a then _ else P (if r = a then i else r) (if k = a then j else k)) = P r k
    rw [if_neg (by omega), if_neg (by omega), if_neg (by omega)]
  · show (if a = a then u (if k = a then j else k) else _) = 0
    rw [if_pos rfl, if_neg (by omega)]
    exact hu k hk
section
variable {n a : Nat} {M R : Mat} {side last : Int}
theorem BInv.entry (B : BInv n a M R side last) : ∃ P : Mat, (∀ i, i < n → ∃ i', i' < n ∧ ∀ j, P i j = M i' j) ∧ last = det a P ∧ ∀ i j, a ≤ i → i < n → j < n → R i j = det (a + 1) (bord P a i j) := by
  obtain ⟨P, _, _, e3, e4, e5, e6⟩ := B.ex
  refine ⟨P, e5, e3, fun i j hi hn hj => ?_⟩
  obtain ⟨z, q, c, hq, h⟩ := e6 i hi hn
  have h1 := bord_comb (u := R i) (Nat.lt_of_le_of_lt hi hn) hj hq h
  rw [bord_lead z, ← e3, Int.mul_comm] at h1
  exact Int.eq_of_mul_eq_mul_left e4 h1
theorem BInv.bound (B : BInv n a M R side last) {b : Nat} (hn : n ≤ 8) (hb : ∀ i j, i < n → j < n → (M i j).natAbs ≤ b) {i j : Nat} (hi : a ≤ i) (hin : i < n) (hj : j < n) : (R i j).natAbs ≤ (8 * b) ^ (a + 1) := by
  obtain ⟨P, e5, _, e⟩ := B.entry
  rw [e i j hi hin hj]
  refine det_bound (a + 1) b _ (by omega) fun r c hr hc => ?_
  have h1 : (if r = a then i else r) < n := by split <;> omega
  have h2 : (if c = a then j else c) < n := by split <;> omega
  obtain ⟨i', hi', q⟩ := e5 _ h1
  show (P _ _).natAbs ≤ b
  rw [q]
  exact hb _ _ hi' h2
theorem BInv.lastBound (B : BInv n a M R side last) {b : Nat} (hn : n ≤ 8) (ha : a ≤ n) (hb : ∀ i j, i < n → j < n → (M i j).natAbs ≤ b) : last.natAbs ≤ (8 * b) ^ a := by
  obtain ⟨P, _, _, e3, _, e5, _⟩ := B.ex
  rw [e3]
  refine det_bound a b _ (by omega) fun r c hr hc => ?_
  obtain ⟨i', hi', q⟩ := e5 r (by omega)
  rw [q]
  exact hb _ _ hi' (by omega)
theorem BInv.ne (B : BInv n a M R side last) : last ≠ 0 := let ⟨_, _, _, _, e, _⟩ := B.ex; e
theorem BInv.fin (B : BInv n n M R side last) : side * last = det n M := by
  obtain ⟨P, e1, _, e3, _⟩ := B.ex
  rw [e3, e1]
/-- no pivot: nothing comes of it -/
theorem BInv.none (B : BInv n a M R side last) (ha : a < n) (h : ∀ i, a ≤ i → i < n → R i a = 0) : det n M = 0 := by
  obtain ⟨P, e1, _, e3, e4, e5, e6⟩ := B.ex
  -- rows from m on are multiples of R's
  have each : ∀ i, ∃ (q : Int) (c : Nat → Int), a ≤ i → i < n → q ≠ 0 ∧ ∀ j, j < n → q * R i j = q * last * P i j + sumTo a fun t => c t * P t j := fun i => by
    by_cases z : a ≤ i ∧ i < n
    · obtain ⟨_, q, c, hq, hh⟩ := e6 i z.1 z.2
      exact ⟨q, c, fun _ _ => ⟨hq, hh⟩⟩
    · exact ⟨1, fun _ => 0, fun x y => absurd ⟨x, y⟩ z⟩
  let q : Nat → Int := fun i => Classical.choose (each i)
  let hyb : Nat → Mat := fun m i j => if i < m then P i j else q i * R i j
  have up : ∀ m, a ≤ m → m < n → det n (hyb m) = 0 → det n (hyb (m + 1)) = 0 := fun m h1 h2 h3 => by
    obtain ⟨c, hc⟩ := Classical.choose_spec (each m)
    obtain ⟨hq, hh⟩ := hc h1 h2
    have hq : q m ≠ 0 := hq
    have hh : ∀ j, j < n → q m * R m j = q m * last * P m j + sumTo a fun t => c t * P t j := hh
    have e : det n (hyb m) = det n (setRow (hyb (m + 1)) m fun j => q m * last * P m j + sumTo a fun t => c t * P t j) := det_congr fun i j hi hj => by
      show (if i < m then P i j else q i * R i j) = if i = m then _ else if i < m + 1 then P i j else q i * R i j
      by_cases y : i = m
      · rw [if_pos y, if_neg (by omega), y, hh j hj]
      · rw [if_neg y]
        by_cases x : i < m
        · rw [if_pos x, if_pos (by omega)]
        · rw [if_neg x, if_neg (by omega)]
    rw [e, det_lin_sum n m h2] at h3
    have z : sumTo a (fun t => c t * det n (setRow (hyb (m + 1)) m (P t))) = 0 := sumTo_zero fun t ht => by
      rw [det_alike (n := n) (r := t) (s := m) (by omega) h2 (by omega) fun k _ => ?_]
      · exact Int.mul_zero _
      · show (if t = m then _ else if t < m + 1 then P t k else _) = if m = m then P t k else _
        rw [if_neg (by omega), if_pos (by omega), if_pos rfl]
    have s : setRow (hyb (m + 1)) m (P m) = hyb (m + 1) := by
      funext i j
      show (if i = m then P m j else if i < m + 1 then P i j else _) = if i < m + 1 then P i j else _
      by_cases y : i = m
      · rw [if_pos y, if_pos (by omega), y]
      · rw [if_neg y]
    rw [z, s, Int.add_zero] at h3
    rcases Int.mul_eq_zero.mp h3 with w | w
    · rcases Int.mul_eq_zero.mp w with w | w
      · exact absurd w hq
      · exact absurd w e4
    · exact w
  have base : det n (hyb a) = 0 := det_block n a _ ha fun i j h1 h2 h3 => by
    show (if i < a then P i j else q i * R i j) = 0
    rw [if_neg (by omega)]
    have z : R i j = 0 := by
      by_cases y : j = a
      · rw [y]; exact h i h1 h2
      · exact (e6 i h1 h2).1 j (by omega)
    rw [z]; exact Int.mul_zero _
  have all : ∀ d, a + d ≤ n → det n (hyb (a + d)) = 0 := fun d => by
    induction d with
    | zero => exact fun _ => base
    | succ d ih => exact fun hd => up (a + d) (by omega) (by omega) (ih (by omega))
  have last0 := all (n - a) (by omega)
  have e : det n (hyb (a + (n - a))) = det n P := det_congr fun i j hi _ => by
    show (if i < a + (n - a) then P i j else _) = P i j
    rw [if_pos (by omega)]
  rw [← e1, ← e, last0]
  exact Int.mul_zero _
theorem BInv.swap (B : BInv n a M R side last) {k : Nat} (hk : a ≤ k) (hkn : k < n) (hne : k ≠ a) : BInv n a M (swapRows R a k) (-side) last := by
  obtain ⟨P, e1, e2, e3, e4, e5, e6⟩ := B.ex
  have low : ∀ t, t < a → swapRows P a k t = P t := fun t ht => by
    funext j
    show P (if t = a then k else if t = k then a else t) j = P t j
    rw [if_neg (by omega), if_neg (by omega)]
  refine ⟨swapRows P a k, ?_, ?_, ?_, e4, fun i hi => ?_, fun i hi hin => ?_⟩
  · rw [det_swap P (by omega) hkn (fun z => hne z.symm), Int.neg_mul, Int.mul_neg, Int.neg_neg, e1]
  · rw [Int.neg_mul_neg, e2]
  · rw [e3]
    exact (det_congr fun i j hi _ => by rw [low i hi]).symm
  · refine e5 _ ?_
    repeat' split
    all_goals omega
  · have h1 : a ≤ (if i = a then k else if i = k then a else i) := by
      repeat' split
      all_goals omega
    have h2 : (if i = a then k else if i = k then a else i) < n := by
      repeat' split
      all_goals omega
    obtain ⟨z, q, c, hq, h⟩ := e6 _ h1 h2
    refine ⟨z, q, c, hq, fun j hj => ?_⟩
    have s : sumTo a (fun t => c t * swapRows P a k t j) = sumTo a fun t => c t * P t j := sumTo_congr fun t ht => by rw [low t ht]
    rw [s]
    exact h j hj
/-- what a step makes of row i, by P's rows -/
theorem comb_step {i k : Nat} {P : Mat} {q1 q2 : Int} {c1 c2 : Nat → Int} (g1 : q1 * R i k = q1 * last * P i k + sumTo a fun t => c1 t * P t k) (g2 : q2 * R a k = q2 * last * P a k + sumTo a fun t => c2 t * P t k) :
    q1 * q2 * (R i k * R a a - R i a * R a k) = q1 * q2 * (last * R a a) * P i k + sumTo (a + 1) fun t => (if t = a then - (R i a * q1 * q2 * last) else c1 t * q2 * R a a - c2 t * q1 * R i a) * P t k := by
  have s : (sumTo (a + 1) fun t => (if t = a then - (R i a * q1 * q2 * last) else c1 t * q2 * R a a - c2 t * q1 * R i a) * P t k) = q2 * R a a * (sumTo a fun t => c1 t * P t k) - q1 * R i a * (sumTo a fun t => c2 t * P t k) - R i a * q1 * q2 * last * P a k := by
    show sumTo a _ + (if a = a then - (R i a * q1 * q2 * last) else c1 a * q2 * R a a - c2 a * q1 * R i a) * P a k = _
    rw [if_pos rfl]
    have w : sumTo a (fun t => (if t = a then - (R i a * q1 * q2 * last) else c1 t * q2 * R a a - c2 t * q1 * R i a) * P t k) = sumTo a fun t => q2 * R a a * (c1 t * P t k) + (- (q1 * R i a)) * (c2 t * P t k) := sumTo_congr fun t ht => by
      rw [if_neg (Nat.ne_of_lt ht), Int.sub_mul, Int.neg_mul, ← Int.sub_eq_add_neg]
      congr 1 <;> ac_rfl
    rw [w, sumTo_add, sumTo_mul, sumTo_mul, Int.neg_mul, Int.neg_mul]
    omega
  rw [s]
  generalize sumTo a (fun t => c1 t * P t k) = S1 at *
  generalize sumTo a (fun t => c2 t * P t k) = S2 at *
  have t1 : S1 = q1 * R i k - q1 * last * P i k := by omega
  have t2 : S2 = q2 * R a k - q2 * last * P a k := by omega
  rw [t1, t2]
  simp only [Int.mul_sub]
  have m1 : q1 * q2 * (R i k * R a a) = q2 * R a a * (q1 * R i k) := by ac_rfl
  have m2 : q1 * q2 * (R i a * R a k) = q1 * R i a * (q2 * R a k) := by ac_rfl
  have m3 : q1 * q2 * (last * R a a) * P i k = q2 * R a a * (q1 * last * P i k) := by ac_rfl
  have m4 : R i a * q1 * q2 * last * P a k = q1 * R i a * (q2 * last * P a k) := by ac_rfl
  rw [m1, m2, m3, m4]
  omega
/-- the division of a step leaves no rest -/
theorem BInv.exact (B : BInv n a M R side last) (ha : a < n) (hp : R a a ≠ 0) {i j : Nat} (hi : a < i) (hin : i < n) (hj : j < n) :
    ∃ d, R i j * R a a - R i a * R a j = last * d := by
  obtain ⟨P, e1, e2, e3, e4, e5, e6⟩ := B.ex
  obtain ⟨z1, q1, c1, hq1, h1⟩ := e6 i (by omega) hin
  obtain ⟨z2, q2, c2, hq2, h2⟩ := e6 a (Nat.le_refl a) ha
  have zero : ∀ k, k < a + 1 → R i k * R a a - R i a * R a k = 0 := fun k hk => by
    by_cases y : k = a
    · rw [y, Int.sub_self]
    · rw [z1 k (by omega), z2 k (by omega)]; simp
  by_cases hj1 : j < a + 1
  · exact ⟨0, by rw [zero j hj1, Int.mul_zero]⟩
  · have lead : R a a = det (a + 1) P := by
      have h := bord_comb (u := R a) (j := a) ha ha hq2 h2
      rw [bord_lead z2, ← e3, Int.mul_comm] at h
      rw [Int.eq_of_mul_eq_mul_left e4 h]
      refine det_congr fun r c _ _ => ?_
      show P (if r = a then a else r) (if c = a then a else c) = P r c
      congr 1
      · split <;> omega
      · split <;> omega
    refine ⟨det (a + 1 + 1) (bord P (a + 1) i j), ?_⟩
    have hh := bord_comb (n := n) (a := a + 1) (i := i) (j := j) (P := P) (last := last * R a a) (q := q1 * q2) (u := fun k => R i k * R a a - R i a * R a k)
        (by omega) hj (Int.mul_ne_zero hq1 hq2) fun k hk => comb_step (h1 k hk) (h2 k hk)
    rw [bord_lead (u := fun k => R i k * R a a - R i a * R a k) zero] at hh
    have hh' : (R i j * R a a - R i a * R a j) * det (a + 1) P = last * R a a * det (a + 1 + 1) (bord P (a + 1) i j) := hh
    rw [← lead] at hh'
    have e : R a a * (R i j * R a a - R i a * R a j) = R a a * (last * det (a + 1 + 1) (bord P (a + 1) i j)) := by
      rw [Int.mul_comm (R a a) (R i j * R a a - R i a * R a j), hh']
      ac_rfl
    exact Int.eq_of_mul_eq_mul_left hp e
theorem BInv.sweep (B : BInv n a M R side last) (ha : a < n) (hp : R a a ≠ 0) {R' : Mat} (hR : ∀ i j, a < i → i < n → j < n → R' i j = (R i j * R a a - R i a * R a j).fdiv last) : BInv n (a + 1) M R' side (R a a) := by
  obtain ⟨P, e1, e2, e3, e4, e5, e6⟩ := id B.ex
  obtain ⟨z2, q2, c2, hq2, h2⟩ := e6 a (Nat.le_refl a) ha
  have lead : R a a = det (a + 1) P := by
    have h := bord_comb (u := R a) (j := a) ha ha hq2 h2
    rw [bord_lead z2, ← e3, Int.mul_comm] at h
    rw [Int.eq_of_mul_eq_mul_left e4 h]
    refine det_congr fun r c _ _ => ?_
    show P (if r = a then a else r) (if c = a then a else c) = P r c
    congr 1
    · split <;> omega
    · split <;> omega
  have ex : ∀ i j, a < i → i < n → j < n → last * R' i j = R i j * R a a - R i a * R a j := fun i j h1 h2 h3 => by
    obtain ⟨d, hd⟩ := B.exact ha hp h1 h2 h3
    rw [hR i j h1 h2 h3, hd, Int.mul_comm last d, Int.mul_fdiv_cancel _ e4, Int.mul_comm]
  refine ⟨P, e1, e2, lead, hp, e5, fun i hi hin => ?_⟩
  obtain ⟨z1, q1, c1, hq1, h1⟩ := e6 i (by omega) hin
  refine ⟨fun j hj => ?_, q1 * q2 * last, fun t => if t = a then - (R i a * q1 * q2 * last) else c1 t * q2 * R a a - c2 t * q1 * R i a, Int.mul_ne_zero (Int.mul_ne_zero hq1 hq2) e4, fun j hj => ?_⟩
  · have q := ex i j (by omega) hin (by omega)
    have zero : R i j * R a a - R i a * R a j = 0 := by
      by_cases y : j = a
      · rw [y, Int.sub_self]
      · rw [z1 j (by omega), z2 j (by omega)]; simp
    rw [zero] at q
    rcases Int.mul_eq_zero.mp q with w | w
    · exact absurd w e4
    · exact w
  · rw [Int.mul_assoc (q1 * q2) last (R' i j), ex i j (by omega) hin hj, comb_step (h1 j hj) (h2 j hj)]
    congr 1
    ac_rfl
end
end TT

/-! values told as data, over a heap, without the lists of a set M -/
namespace DL
open PySem L2
abbrev D := PyData
abbrev As := Addr → Prop
abbrev scrD (ns : List Int) : D := .dict ((.none, .none) :: ns.map fun n => (.none, .int n))
def ScrAt (K : PySem.W.Frag) (M : As) (H : Hp) (a : Addr) (ns : List Int) : Prop :=
  (∃ o, H a = some (.frz o (.lst (ns.map V.int)))) ∨ (¬ M a ∧ H a = some (.lst (ns.map V.int))) ∨
    ∃ (o : Obj) (its : Array Value) (n : Nat), K.lookup a = some o ∧ o.cls = .type "list" ∧ o.dict = none ∧ o.data = .seq its n ∧ its.size ≤ sizeLine ∧ Vals (ns.map V.int) its.toList
mutual
inductive Rp (K : PySem.W.Frag) (M : As) (H : Hp) : V → D → Prop
  | non : Rp K M H .non .none
  | bl (b : Bool) : Rp K M H (.bl b) (.bool b)
  | int (i : Int) : Rp K M H (.int i) (.int i)
  | str (x : Str) : Rp K M H (.str x) (.str x)
  | lst {a : Addr} {xs : List V} {ds : List D} (h1 : ¬ M a) (h2 : H a = some (.lst xs)) (h3 : RpA K M H xs ds) : Rp K M H (.ref a) (.list ds)
  | tup {a : Addr} {xs : List V} {ds : List D} (h2 : H a = some (.tup xs)) (h3 : RpA K M H xs ds) : Rp K M H (.ref a) (.tuple ds)
  | dct {a : Addr} (h1 : ¬ M a) (h2 : H a = some (.dK [])) : Rp K M H (.ref a) (.dict [])
  | scr {a : Addr} {ns : List Int} (h1 : ScrAt K M H a ns) : Rp K M H (.ref a) (.dict ((.none, .none) :: ns.map fun n => (.none, .int n)))
inductive RpA (K : PySem.W.Frag) (M : As) (H : Hp) : List V → List D → Prop
  | nil : RpA K M H [] []
  | cons {v : V} {vs : List V} {d : D} {ds : List D} (h1 : Rp K M H v d) (h2 : RpA K M H vs ds) : RpA K M H (v :: vs) (d :: ds)
end
/-- what M' and H' keep of what M and H know -/
structure Keep (M M' : As) (H H' : Hp) : Prop where
  lst : ∀ a xs, ¬ M a → H a = some (.lst xs) → ¬ M' a ∧ H' a = some (.lst xs)
  tup : ∀ a xs, H a = some (.tup xs) → H' a = some (.tup xs)
  dct : ∀ a, ¬ M a → H a = some (.dK []) → ¬ M' a ∧ H' a = some (.dK [])
  frz : ∀ a o u, H a = some (.frz o u) → H' a = some (.frz o u)
section
variable {K : PySem.W.Frag} {M M' : As} {H H' : Hp}
theorem Keep.scr (k : Keep M M' H H') {a : Addr} {ns : List Int} (h : ScrAt K M H a ns) : ScrAt K M' H' a ns := by
  rcases h with ⟨o, h⟩ | ⟨h1, h2⟩ | h
  · exact .inl ⟨o, k.frz _ _ _ h⟩
  · exact .inr (.inl (k.lst _ _ h1 h2))
  · exact .inr (.inr h)
mutual
theorem Keep.rp (k : Keep M M' H H') : ∀ {v : V} {d : D}, Rp K M H v d → Rp K M' H' v d
  | _, _, .non => .non
  | _, _, .bl b => .bl b
  | _, _, .int i => .int i
  | _, _, .str x => .str x
  | _, _, .lst h1 h2 h3 => .lst (k.lst _ _ h1 h2).1 (k.lst _ _ h1 h2).2 (Keep.rpA k h3)
  | _, _, .tup h2 h3 => .tup (k.tup _ _ h2) (Keep.rpA k h3)
  | _, _, .dct h1 h2 => .dct (k.dct _ h1 h2).1 (k.dct _ h1 h2).2
  | _, _, .scr h1 => .scr (k.scr h1)
theorem Keep.rpA (k : Keep M M' H H') : ∀ {vs : List V} {ds : List D}, RpA K M H vs ds → RpA K M' H' vs ds
  | _, _, .nil => .nil
  | _, _, .cons h1 h2 => .cons (Keep.rp k h1) (Keep.rpA k h2)
end
theorem Keep.same (e : Same H H') (h : ∀ a, M' a → M a ∨ H a = none) : Keep M M' H H' where
  lst := fun a xs n q => ⟨fun m => (h a m).elim n fun z => absurd (z.symm.trans q) (fun y => nomatch y), e _ _ q⟩
  tup := fun a xs q => e _ _ q
  dct := fun a n q => ⟨fun m => (h a m).elim n fun z => absurd (z.symm.trans q) (fun y => nomatch y), e _ _ q⟩
  frz := fun a o u q => e _ _ q
theorem Keep.ext (e : Same H H') : Keep M M H H' := .same e fun _ m => .inl m
theorem Keep.less (h : ∀ a, M' a → M a) : Keep M M' H H := .same (Same.refl H) fun a m => .inl (h a m)
theorem Keep.mut {p : Addr} {xs : List V} {o : HO} (hm : M p) (hp : H p = some (.lst xs)) : Keep M M H (upd H p o) where
  lst := fun a xs n q => ⟨n, by rw [upd_ne (fun z => n (by rw [z]; exact hm))]; exact q⟩
  tup := fun a xs q => by rw [upd_ne (fun z => by rw [z, hp] at q; cases q)]; exact q
  dct := fun a n q => ⟨n, by rw [upd_ne (fun z => n (by rw [z]; exact hm))]; exact q⟩
  frz := fun a o u q => by rw [upd_ne (fun z => by rw [z, hp] at q; cases q)]; exact q
/-- without the lists at L -/
noncomputable def hideL (L : As) (H : Hp) : Hp := fun a => @ite _ (L a) (Classical.propDecidable _) none (H a)
theorem hideL_in {L : As} {a : Addr} (h : L a) : hideL L H a = none := by unfold hideL; rw [if_pos h]
theorem hideL_out {L : As} {a : Addr} (h : ¬ L a) : hideL L H a = H a := by unfold hideL; rw [if_neg h]
theorem hideL_same {L : As} : Same (hideL L H) H := fun a o h => by
  by_cases z : L a
  · rw [hideL_in z] at h; cases h
  · rw [hideL_out z] at h; exact h
theorem Keep.hide {L : As} (hl : ∀ a, L a → M a) (hs : ∀ a, L a → ∃ xs, H a = some (.lst xs)) : Keep M M H (hideL L H) where
  lst := fun a xs n q => ⟨n, by rw [hideL_out (fun z => n (hl a z))]; exact q⟩
  tup := fun a xs q => by rw [hideL_out (fun z => by obtain ⟨_, e⟩ := hs a z; rw [e] at q; cases q)]; exact q
  dct := fun a n q => ⟨n, by rw [hideL_out (fun z => n (hl a z))]; exact q⟩
  frz := fun a o u q => by rw [hideL_out (fun z => by obtain ⟨_, e⟩ := hs a z; rw [e] at q; cases q)]; exact q
theorem Keep.trans {M'' : As} {H'' : Hp} (k : Keep M M' H H') (k' : Keep M' M'' H' H'') : Keep M M'' H H'' where
  lst := fun a xs n q => let ⟨x, y⟩ := k.lst a xs n q; k'.lst a xs x y
  tup := fun a xs q => k'.tup a xs (k.tup a xs q)
  dct := fun a n q => let ⟨x, y⟩ := k.dct a n q; k'.dct a x y
  frz := fun a o u q => k'.frz a o u (k.frz a o u q)
theorem RpA.length : ∀ {vs : List V} {ds : List D}, RpA K M H vs ds → vs.length = ds.length
  | _, _, .nil => rfl
  | _, _, .cons _ h => congrArg (· + 1) (RpA.length h)
theorem RpA.append : ∀ {vs ws : List V} {ds es : List D}, RpA K M H vs ds → RpA K M H ws es → RpA K M H (vs ++ ws) (ds ++ es)
  | _, _, _, _, .nil, h => h
  | _, _, _, _, .cons a t, h => .cons a (RpA.append t h)
theorem RpA.get : ∀ {vs : List V} {ds : List D} {i : Nat} {d : D}, RpA K M H vs ds → ds[i]? = some d → ∃ v, vs[i]? = some v ∧ Rp K M H v d
  | _, _, _, _, .nil, e => by simp at e
  | _, _, 0, _, .cons a _, e => by simp at e; subst e; exact ⟨_, rfl, a⟩
  | _, _, i + 1, _, .cons _ t, e => by
    obtain ⟨v, h1, h2⟩ := RpA.get t (by simpa using e)
    exact ⟨v, by simpa using h1, h2⟩
theorem RpA.getV : ∀ {vs : List V} {ds : List D} {i : Nat} {v : V}, RpA K M H vs ds → vs[i]? = some v → ∃ d, ds[i]? = some d ∧ Rp K M H v d
  | _, _, _, _, .nil, e => by simp at e
  | _, _, 0, _, .cons a _, e => by simp at e; subst e; exact ⟨_, rfl, a⟩
  | _, _, i + 1, _, .cons _ t, e => by
    obtain ⟨v, h1, h2⟩ := RpA.getV t (by simpa using e)
    exact ⟨v, by simpa using h1, h2⟩
theorem RpA.take : ∀ {vs : List V} {ds : List D} (n : Nat), RpA K M H vs ds → RpA K M H (vs.take n) (ds.take n)
  | _, _, 0, _ => .nil
  | _, _, _ + 1, .nil => .nil
  | _, _, n + 1, .cons a t => .cons a (RpA.take n t)
theorem RpA.drop : ∀ {vs : List V} {ds : List D} (n : Nat), RpA K M H vs ds → RpA K M H (vs.drop n) (ds.drop n)
  | _, _, 0, h => h
  | _, _, _ + 1, .nil => .nil
  | _, _, n + 1, .cons _ t => RpA.drop n t
theorem RpA.set {v : V} {d : D} (r : Rp K M H v d) : ∀ {vs : List V} {ds : List D} (i : Nat), RpA K M H vs ds → RpA K M H (vs.set i v) (ds.set i d)
  | _, _, _, .nil => .nil
  | _, _, 0, .cons _ t => .cons r t
  | _, _, i + 1, .cons a t => .cons a (RpA.set r i t)
theorem RpA.ints : ∀ (ns : List Int), RpA K M H (ns.map V.int) (ns.map PyData.int)
  | [] => .nil
  | n :: ns => .cons (.int n) (RpA.ints ns)
theorem RpA.ints_inv : ∀ {vs : List V} {ns : List Int}, RpA K M H vs (ns.map PyData.int) → vs = ns.map V.int
  | _, [], h => by cases h; rfl
  | _, n :: ns, h => by
    cases h with
    | cons a t =>
      cases a
      rw [RpA.ints_inv t]; rfl
theorem RpA.bools_inv : ∀ {vs : List V} {bs : List Bool}, RpA K M H vs (bs.map PyData.bool) → vs = bs.map V.bl
  | _, [], h => by cases h; rfl
  | _, b :: bs, h => by
    cases h with
    | cons a t =>
      cases a
      rw [RpA.bools_inv t]; rfl
end
/-- flat data have one value -/
def flatD : D → Option V
  | .none => some .non
  | .bool b => some (.bl b)
  | .int i => some (.int i)
  | .str x => some (.str x)
  | _ => none
theorem Rp.flat {K : PySem.W.Frag} {M : As} {H : Hp} {v w : V} {d : D} (h : Rp K M H v d) (e : flatD d = some w) : v = w := by
  cases h <;> simp [flatD] at e <;> exact e
theorem Rp.of_flat {K : PySem.W.Frag} {M : As} {H : Hp} {w : V} {d : D} (e : flatD d = some w) : Rp K M H w d := by
  cases d <;> simp [flatD] at e <;> subst e
  · exact .non
  · exact .bl _
  · exact .int _
  · exact .str _
theorem Rp.list_inv {K : PySem.W.Frag} {M : As} {H : Hp} {v : V} {ds : List D} (h : Rp K M H v (.list ds)) : ∃ a vs, v = .ref a ∧ ¬ M a ∧ H a = some (.lst vs) ∧ RpA K M H vs ds := by
  cases h with
  | lst h1 h2 h3 => exact ⟨_, _, rfl, h1, h2, h3⟩
theorem Rp.tup_inv {K : PySem.W.Frag} {M : As} {H : Hp} {v : V} {ds : List D} (h : Rp K M H v (.tuple ds)) : ∃ a vs, v = .ref a ∧ H a = some (.tup vs) ∧ RpA K M H vs ds := by
  cases h with
  | tup h2 h3 => exact ⟨_, _, rfl, h2, h3⟩
theorem Rp.scr_inv {K : PySem.W.Frag} {M : As} {H : Hp} {v : V} {d : D} {ns : List Int} (h : Rp K M H v d) (e : d = scrD ns) : ∃ a, v = .ref a ∧ ScrAt K M H a ns := by
  cases h with
  | @scr a ms h1 =>
    have e1 := PyData.dict.inj e
    have e2 := (List.cons.inj e1).2
    have inj : ∀ xs ys : List Int, xs.map (fun n => ((.none, .int n) : D × D)) = ys.map (fun n => (.none, .int n)) → xs = ys := fun xs => by
      induction xs with
      | nil => intro ys h; cases ys with
        | nil => rfl
        | cons y ys => simp at h
      | cons x xs ih => intro ys h; cases ys with
        | nil => simp at h
        | cons y ys =>
          simp only [List.map_cons, List.cons.injEq] at h
          have h1 : x = y := by simpa using h.1
          rw [h1, ih ys h.2]
    rw [inj _ _ e2] at h1
    exact ⟨a, rfl, h1⟩
  | dct _ _ => simp [scrD] at e
  | _ => cases e
theorem ScrAt.seq {K : PySem.W.Frag} {M : As} {H : Hp} {a : Addr} {ns : List Int} (h : ScrAt K M H a ns) : SqL K H a (ns.map V.int) := by
  rcases h with ⟨o, h⟩ | ⟨_, h⟩ | h
  · exact .inl (.inr ⟨o, h⟩)
  · exact .inl (.inl h)
  · exact .inr h
theorem ScrAt.of {K : PySem.W.Frag} {H : Hp} {a : Addr} {ns : List Int} (h : SqL K H a (ns.map V.int)) : ScrAt K (fun _ => False) H a ns := by
  rcases h with (h | ⟨o, h⟩) | h
  · exact .inr (.inl ⟨fun z => z, h⟩)
  · exact .inl ⟨o, h⟩
  · exact .inr (.inr h)
/-! ### slots -/
inductive Sl where
  | un
  | val (n : Bool) (d : D)
  | own (n : Bool) (ds : List D)
def Sn (n : Bool) (M B : As) : As := match n with
  | true => B
  | false => M
def SlOk (K : PySem.W.Frag) (M B : As) (H : Hp) (o : Option (Option V)) : Sl → Prop
  | .un => True
  | .val n d => ∃ v, o = some (some v) ∧ Rp K (Sn n M B) H v d
  | .own n ds => ∃ p vs, o = some (some (.ref p)) ∧ M p ∧ H p = some (.lst vs) ∧ RpA K (Sn n M B) H vs ds
structure EnvOk (K : PySem.W.Frag) (M B : As) (H : Hp) (σ : St) (env : List Sl) : Prop where
  len : σ.length = env.length
  sl : ∀ (i : Nat) (s : Sl), env[i]? = some s → SlOk K M B H σ[i]? s
structure Wf (M B : As) (H : Hp) : Prop where
  sub : ∀ a, M a → B a
  trk : ∀ a, B a → H a ≠ none
section
variable {K : PySem.W.Frag} {M M' B B' : As} {H H' : Hp} {σ : St} {env : List Sl}
theorem Wf.ext (w : Wf M B H) (e : Same H H') : Wf M B H' := ⟨w.sub, fun a h => by
  cases q : H a with
  | none => exact absurd q (w.trk a h)
  | some o => rw [e _ _ q]; exact fun z => nomatch z⟩
theorem Wf.trkM (w : Wf M B H) : ∀ a, M a → H a ≠ none := fun a h => w.trk a (w.sub a h)
theorem Wf.sn (w : Wf M B H) (n : Bool) : ∀ a, M a → Sn n M B a := fun a h => by
  cases n with
  | true => exact w.sub a h
  | false => exact h
theorem Wf.snB (w : Wf M B H) (n : Bool) : ∀ a, Sn n M B a → B a := fun a h => by
  cases n with
  | true => exact h
  | false => exact w.sub a h
theorem Wf.snT (w : Wf M B H) (n : Bool) : ∀ a, Sn n M B a → H a ≠ none := fun a h => w.trk a (w.snB n a h)
theorem SlOk.keep (e : ∀ p, M p → ∀ xs, H p = some (.lst xs) → M' p ∧ H' p = some (.lst xs)) (k : ∀ n, Keep (Sn n M B) (Sn n M' B') H H') {o : Option (Option V)} : ∀ {s : Sl}, SlOk K M B H o s → SlOk K M' B' H' o s
  | .un, _ => trivial
  | .val n d, ⟨v, h1, h2⟩ => ⟨v, h1, (k n).rp h2⟩
  | .own n ds, ⟨p, vs, h1, h2, h3, h4⟩ => ⟨p, vs, h1, (e p h2 vs h3).1, (e p h2 vs h3).2, (k n).rpA h4⟩
theorem EnvOk.keep (x : EnvOk K M B H σ env) (e : ∀ p, M p → ∀ xs, H p = some (.lst xs) → M' p ∧ H' p = some (.lst xs)) (k : ∀ n, Keep (Sn n M B) (Sn n M' B') H H') : EnvOk K M' B' H' σ env :=
  ⟨x.len, fun i s h => (x.sl i s h).keep e k⟩
theorem EnvOk.ext (x : EnvOk K M B H σ env) (e : Same H H') : EnvOk K M B H' σ env := x.keep (fun p h xs q => ⟨h, e _ _ q⟩) fun n => .ext e
theorem EnvOk.set (x : EnvOk K M B H σ env) {i : Nat} {ov : Option V} {s : Sl} (h : SlOk K M B H (some ov) s) : EnvOk K M B H (σ.set i ov) (env.set i s) := by
  refine ⟨by rw [List.length_set, List.length_set]; exact x.len, fun j t ht => ?_⟩
  by_cases e : i = j
  · subst e
    by_cases hi : i < env.length
    · rw [List.getElem?_set_self hi] at ht
      cases ht
      rw [List.getElem?_set_self (by rw [x.len]; exact hi)]
      exact h
    · rw [List.getElem?_eq_none (by rw [List.length_set]; omega)] at ht
      cases ht
  · rw [List.getElem?_set_ne e] at ht ⊢
    exact x.sl j t ht
theorem EnvOk.forget (x : EnvOk K M B H σ env) {i : Nat} : EnvOk K M B H σ (env.set i .un) := by
  refine ⟨by rw [List.length_set]; exact x.len, fun j t ht => ?_⟩
  by_cases e : i = j
  · subst e
    by_cases hi : i < env.length
    · rw [List.getElem?_set_self hi] at ht
      cases ht
      trivial
    · rw [List.getElem?_eq_none (by rw [List.length_set]; omega)] at ht
      cases ht
  · rw [List.getElem?_set_ne e] at ht
    exact x.sl j t ht
end
end DL

namespace DL
open PySem L2
theorem szl {n : Nat} (h : n ≤ 100000) : n ≤ sizeLine := Nat.le_trans h (by decide)
theorem szl' {n : Nat} (h : n < 100000) : n < sizeLine := Nat.lt_of_lt_of_le h (by decide)
/-! ### what an expression comes to -/
abbrev Po := As → As → Hp → V → Hp → Prop
def Jd (K : PySem.W.Frag) (te : TE) (env : List Sl) (P : Po) : Prop :=
  ∀ (M B : As) (σ : St) (H : Hp) (Q : VK), Wf M B H → EnvOk K M B H σ env → (∀ v H', Same H H' → P M B H v H' → Q v H') → te σ H Q
def pV (v : V) : Po := fun _ _ _ x _ => x = v
def pD (K : PySem.W.Frag) (n : Bool) (d : D) : Po := fun M B _ x H' => Rp K (Sn n M B) H' x d
def pS (K : PySem.W.Frag) (n : Bool) (ds : List D) : Po := fun M B _ x H' => ∃ a vs, x = .ref a ∧ H' a = some (.lst vs) ∧ RpA K (Sn n M B) H' vs ds
def pN (K : PySem.W.Frag) (n : Bool) (ds : List D) : Po := fun M B H x H' => ∃ a vs, x = .ref a ∧ H a = none ∧ H' a = some (.lst vs) ∧ RpA K (fun b => Sn n M B b ∨ b = a) H' vs ds
def pU (K : PySem.W.Frag) (n : Bool) (ds : List D) : Po := fun M B _ x H' => ∃ a vs, x = .ref a ∧ H' a = some (.tup vs) ∧ RpA K (Sn n M B) H' vs ds
/-- some data with p -/
def pP (K : PySem.W.Frag) (n : Bool) (p : D → Prop) : Po := fun M B _ x H' => ∃ d, p d ∧ Rp K (Sn n M B) H' x d
abbrev JV (K : PySem.W.Frag) (te : TE) (env : List Sl) (v : V) : Prop := Jd K te env (pV v)
abbrev JD (K : PySem.W.Frag) (te : TE) (env : List Sl) (n : Bool) (d : D) : Prop := Jd K te env (pD K n d)
abbrev JS (K : PySem.W.Frag) (te : TE) (env : List Sl) (n : Bool) (ds : List D) : Prop := Jd K te env (pS K n ds)
abbrev JN (K : PySem.W.Frag) (te : TE) (env : List Sl) (n : Bool) (ds : List D) : Prop := Jd K te env (pN K n ds)
abbrev JU (K : PySem.W.Frag) (te : TE) (env : List Sl) (n : Bool) (ds : List D) : Prop := Jd K te env (pU K n ds)
def Jt (K : PySem.W.Frag) (tt : TT) (env : List Sl) (b : Bool) : Prop :=
  ∀ (M B : As) (σ : St) (H : Hp) (Q : Bool → Hp → Prop), Wf M B H → EnvOk K M B H σ env → (∀ H', Same H H' → Q b H') → tt σ H Q
section
variable {K : PySem.W.Frag} {env : List Sl} {te ta tb tc : TE} {tt t u : TT} {P P' : Po} {n m : Bool} {d e : D} {ds es : List D} {v x y z : V} {b c : Bool} {i : Nat}
theorem Jd.imp (h : Jd K te env P) (k : ∀ M B H v H', Wf M B H → Same H H' → P M B H v H' → P' M B H v H') : Jd K te env P' :=
  fun M B σ H Q w e q => h M B σ H Q w e fun v H' s p => q v H' s (k M B H v H' w s p)
theorem Jd.toV (h : JD K te env n d) (e : flatD d = some v) : JV K te env v := h.imp fun _ _ _ _ _ _ _ p => Rp.flat p e
theorem Jd.ofV (h : JV K te env v) (e : flatD d = some v) : JD K te env n d := h.imp fun _ _ _ _ _ _ _ p => by
  show Rp _ _ _ _ _
  rw [p]
  exact Rp.of_flat e
theorem Jd.int {j : Int} (h : JV K te env (.int j)) : JD K te env n (.int j) := h.ofV rfl
theorem Jd.bool (h : JV K te env (.bl b)) : JD K te env n (.bool b) := h.ofV rfl
theorem Jd.nS (h : JN K te env n ds) : JS K te env n ds := h.imp fun _ _ _ _ _ _ _ ⟨a, vs, h1, _, h3, h4⟩ => ⟨a, vs, h1, h3, (Keep.less fun _ => .inl).rpA h4⟩
theorem Jd.nD (h : JN K te env n ds) : JD K te env n (.list ds) := h.imp fun M B H v H' w s ⟨a, vs, h1, h2, h3, h4⟩ => by
  show Rp _ _ _ _ _
  rw [h1]
  exact .lst (fun z => w.snT n a z h2) h3 ((Keep.less fun _ => .inl).rpA h4)
theorem Jd.dS (h : JD K te env n (.list ds)) : JS K te env n ds := h.imp fun _ _ _ _ _ _ _ p => let ⟨a, vs, h1, _, h3, h4⟩ := Rp.list_inv p; ⟨a, vs, h1, h3, h4⟩
theorem Jd.dU (h : JD K te env n (.tuple ds)) : JU K te env n ds := h.imp fun _ _ _ _ _ _ _ p => let ⟨a, vs, h1, h3, h4⟩ := Rp.tup_inv p; ⟨a, vs, h1, h3, h4⟩
theorem Jd.uD (h : JU K te env n ds) : JD K te env n (.tuple ds) := h.imp fun _ _ _ _ _ _ _ ⟨a, vs, h1, h3, h4⟩ => by
  show Rp _ _ _ _ _
  rw [h1]
  exact .tup h3 h4
theorem Jd.low (h : JD K te env true d) : JD K te env n d := h.imp fun M B H v H' w s p => by
  cases n with
  | true => exact p
  | false => exact (Keep.less w.sub).rp p
theorem Jd.lowS (h : JS K te env true ds) : JS K te env n ds := h.imp fun M B H v H' w s ⟨a, vs, h1, h2, h3⟩ => by
  cases n with
  | true => exact ⟨a, vs, h1, h2, h3⟩
  | false => exact ⟨a, vs, h1, h2, (Keep.less w.sub).rpA h3⟩
theorem Jd.eqV (h : JV K te env v) (e : v = x) : JV K te env x := e ▸ h
theorem Jd.eqD (h : JD K te env n d) (q : d = e) : JD K te env n e := q ▸ h
theorem Jd.eqS (h : JS K te env n ds) (q : ds = es) : JS K te env n es := q ▸ h
theorem Jd.eqN (h : JN K te env n ds) (q : ds = es) : JN K te env n es := q ▸ h
/-! ### names, constants -/
theorem jd_var (h : env[i]? = some (.val n d)) : JD K (tVar i) env n d := fun M B σ H Q w e q => by
  obtain ⟨v, h1, h2⟩ := e.sl i _ h
  exact ⟨v, h1, q v H (Same.refl H) h2⟩
theorem jv_var (h : env[i]? = some (.val n d)) (f : flatD d = some v) : JV K (tVar i) env v := (jd_var h).toV f
theorem js_var (h : env[i]? = some (.val n (.list ds))) : JS K (tVar i) env n ds := (jd_var h).dS
theorem ju_var (h : env[i]? = some (.val n (.tuple ds))) : JU K (tVar i) env n ds := (jd_var h).dU
theorem js_own (h : env[i]? = some (.own n ds)) : JS K (tVar i) env n ds := fun M B σ H Q w e q => by
  obtain ⟨p, vs, h1, _, h3, h4⟩ := e.sl i _ h
  exact ⟨.ref p, h1, q _ H (Same.refl H) ⟨p, vs, rfl, h3, h4⟩⟩
theorem jv_c : JV K (tC v) env v := fun M B σ H Q w e q => q v H (Same.refl H) rfl
/-! ### operators -/
theorem Jd.op {r : R2} {Pa Pb : Po} (ha : Jd K ta env Pa) (hb : Jd K tb env Pb)
    (hr : ∀ (M B : As) (H : Hp) (x y : V) (H1 H2 : Hp), Wf M B H → Same H H1 → Same H1 H2 → Pa M B H x H1 → Pb M B H1 y H2 → ∀ Q : VK, (∀ v H3, Same H2 H3 → P M B H v H3 → Q v H3) → r x y H2 Q) : Jd K (tOp r ta tb) env P :=
  fun M B σ H Q w e q => ha M B σ H _ w e fun x H1 s1 p1 => hb M B σ H1 _ (w.ext s1) (e.ext s1) fun y H2 s2 p2 => hr M B H x y H1 H2 w s1 s2 p1 p2 Q fun v H3 s3 p3 => q v H3 ((s1.trans s2).trans s3) p3
theorem Jd.un {r : V → Hp → VK → Prop} {Pa : Po} (ha : Jd K ta env Pa)
    (hr : ∀ (M B : As) (H : Hp) (x : V) (H1 : Hp), Wf M B H → Same H H1 → Pa M B H x H1 → ∀ Q : VK, (∀ v H3, Same H1 H3 → P M B H v H3 → Q v H3) → r x H1 Q) : Jd K (tUn r ta) env P :=
  fun M B σ H Q w e q => ha M B σ H _ w e fun x H1 s1 p1 => hr M B H x H1 w s1 p1 Q fun v H3 s3 p3 => q v H3 (s1.trans s3) p3
theorem jv_op {r : R2} (ha : JV K ta env x) (hb : JV K tb env y) (hr : ∀ (H : Hp) (Q : VK), Q z H → r x y H Q) : JV K (tOp r ta tb) env z :=
  Jd.op ha hb fun _ _ _ _ _ _ H2 _ _ _ p1 p2 Q q => by
    have e1 : _ = x := p1
    have e2 : _ = y := p2
    rw [e1, e2]
    exact hr H2 Q (q z H2 (Same.refl H2) rfl)
theorem jv_I0 {g : Int → Int → V} {j k : Int} (ha : JV K ta env (.int j)) (hb : JV K tb env (.int k)) : JV K (tOp (rI0 g) ta tb) env (g j k) := jv_op ha hb fun _ _ q => ⟨j, k, rfl, rfl, q⟩
theorem jv_I {C : Int → Int → Prop} {g : Int → Int → V} {j k : Int} (ha : JV K ta env (.int j)) (hb : JV K tb env (.int k)) (hc : C j k) : JV K (tOp (rI C g) ta tb) env (g j k) := jv_op ha hb fun _ _ q => ⟨j, k, rfl, rfl, hc, q⟩
theorem jv_U {g : Int → V} {j : Int} (ha : JV K ta env (.int j)) : JV K (tUn (rU g) ta) env (g j) := Jd.un ha fun _ _ _ _ H1 _ _ p1 Q q => by
  have e1 : _ = V.int j := p1
  rw [e1]
  exact ⟨j, rfl, q _ H1 (Same.refl H1) rfl⟩
def rOr (r r' : R2) : R2 := fun x y H Q => r x y H Q ∨ r' x y H Q
theorem opr_or {X : Cx} {f : Value → Value → Sem Value} {r r' : R2} (h : OpR X f r) (h' : OpR X f r') : OpR X f (rOr r r') := fun pins s σ H x y v u Q I rx ry q => by
  rcases q with q | q
  · exact h pins s σ H x y v u Q I rx ry q
  · exact h' pins s σ H x y v u Q I rx ry q
theorem jd_orL {r r' : R2} (h : Jd K (tOp r ta tb) env P) (mono : ∀ (a b : TE) (σ : St) (H : Hp) (Q : VK), tOp r a b σ H Q → tOp (rOr r r') a b σ H Q) : Jd K (tOp (rOr r r') ta tb) env P := fun M B σ H Q w e q => mono _ _ _ _ _ (h M B σ H Q w e q)
abbrev rAddD : R2 := rOr (rI0 fun i j => .int (i + j)) rCat
theorem op_addD {X : Cx} : OpR X (binaryOp .Add) rAddD := opr_or op_add op_cat
theorem jv_add {j k : Int} (ha : JV K ta env (.int j)) (hb : JV K tb env (.int k)) : JV K (tOp rAddD ta tb) env (.int (j + k)) := jv_op ha hb fun _ _ q => .inl ⟨j, k, rfl, rfl, q⟩
theorem jv_sub {j k : Int} (ha : JV K ta env (.int j)) (hb : JV K tb env (.int k)) : JV K (tOp (rI0 fun i j => .int (i - j)) ta tb) env (.int (j - k)) := jv_I0 ha hb
theorem jn_new {vs : List V} {M B : As} {H H2 : Hp} {p : Addr} (w : Wf M B H) (s : Same H H2) (hp : H2 p = none) (r : RpA K (Sn n M B) H2 vs ds) : pN K n ds M B H (.ref p) (upd H2 p (.lst vs)) :=
  ⟨p, vs, rfl, s.free hp, upd_same, (Keep.same (fun b o e => by rw [upd_ne (ne_of_none e hp)]; exact e) fun b m => m.imp_right fun z => by rw [z]; exact hp).rpA r⟩
theorem same_upd {H : Hp} {p : Addr} {o : HO} (h : H p = none) : Same H (upd H p o) := fun b x e => by rw [upd_ne (ne_of_none e h)]; exact e
theorem jn_cat (ha : JS K ta env n ds) (hb : JS K tb env n es) (hz : ds.length + es.length ≤ 100000) : JN K (tOp rAddD ta tb) env n (ds ++ es) :=
  Jd.op ha hb fun M B H x y H1 H2 w s1 s2 ⟨a, vs, e1, h1, r1⟩ ⟨b, us, e2, h2, r2⟩ Q q => by
    rw [e1, e2]
    refine .inr ⟨a, b, vs, us, rfl, rfl, s2 _ _ h1, h2, szl (by rw [r1.length, r2.length]; exact hz), fun p hp => q _ _ (same_upd hp) ?_⟩
    exact jn_new w (s1.trans s2) hp (((Keep.ext s2).rpA r1).append r2)
/-- * of great ints, a list times an int -/
def CMulB (i j : Int) : Prop := i.natAbs.log2 + j.natAbs.log2 < 100000000
theorem CMulB.ok {i j : Int} (h : CMulB i j) : IntMulOk i j := by
  have b : ∀ x : Int, Builtin.Int.intBits x ≤ x.natAbs.log2 + 1 := fun x => by
    unfold Builtin.Int.intBits
    split <;> omega
  have h1 := b i
  have h2 := b j
  have h3 : i.natAbs.log2 + j.natAbs.log2 < 100000000 := h
  intro z
  rw [Bool.and_eq_true] at z
  have z2 := z.2
  unfold Builtin.Int.intTooBig at z2
  have z3 := of_decide_eq_true z2
  rw [show bitsLine = 134217728 by decide] at z3
  omega
theorem op_mulB {X : Cx} : OpR X (binaryOp .Mult) (rI CMulB fun i j => .int (i * j)) := opI fun _ _ _ _ _ _ _ hc q => PyProof.Rows.mul_int q hc.ok
theorem cmulWB {i j : Int} (h : CMulW i j) : CMulB i j := Nat.lt_trans (show _ + _ < 1000000 from h) (by decide)
abbrev rMulD : R2 := rOr (rI CMulB fun i j => .int (i * j)) rRep
theorem op_mulD {X : Cx} : OpR X (binaryOp .Mult) rMulD := opr_or op_mulB op_rep
theorem jv_mulW {j k : Int} (ha : JV K ta env (.int j)) (hb : JV K tb env (.int k)) (h : CMulB j k) : JV K (tOp rMulD ta tb) env (.int (j * k)) := jv_op ha hb fun _ _ q => .inl ⟨j, k, rfl, rfl, h, q⟩
theorem RpA.rep {M : As} {H : Hp} {vs : List V} (r : RpA K M H vs ds) : ∀ k : Nat, RpA K M H (List.replicate k vs).flatten (List.replicate k ds).flatten
  | 0 => .nil
  | k + 1 => by
    rw [List.replicate_succ, List.replicate_succ, List.flatten_cons, List.flatten_cons]
    exact r.append (RpA.rep r k)
theorem jn_rep {k : Int} (ha : JS K ta env n ds) (hb : JV K tb env (.int k)) (h0 : 0 ≤ k) (hz : ds.length * k.toNat ≤ 100000) (hk : k ≤ 100000) : JN K (tOp rMulD ta tb) env n (List.replicate k.toNat ds).flatten :=
  Jd.op ha hb fun M B H x y H1 H2 w s1 s2 ⟨a, vs, e1, h1, r1⟩ p2 Q q => by
    have e2 : y = V.int k := p2
    rw [e1, e2]
    refine .inr ⟨a, k, vs, rfl, rfl, s2 _ _ h1, by omega, by omega, szl (by rw [r1.length]; exact hz), fun p hp => q _ _ (same_upd hp) ?_⟩
    exact jn_new w (s1.trans s2) hp (((Keep.ext s2).rpA r1).rep _)
/-- // by any divisor but nought -/
def CDivA (_ j : Int) : Prop := j ≠ 0 ∧ j.natAbs.log2 < 9000
theorem op_fdivA {X : Cx} : OpR X (binaryOp .FloorDiv) (rI CDivA fun i j => .int (i.fdiv j)) := opI fun _ _ _ _ _ _ _ hc q => PyProof.Rows.floordiv_int hc.1 q (.inl (PyProof.noPylong_of_log2 hc.2))
theorem jv_fdiv {j k : Int} (ha : JV K ta env (.int j)) (hb : JV K tb env (.int k)) (h : CDivA j k) : JV K (tOp (rI CDivA fun i j => .int (i.fdiv j)) ta tb) env (.int (j.fdiv k)) := jv_I ha hb h
theorem log2_small {k : Int} (h0 : 0 < k) (h1 : k < 2 ^ 63) : CDivA 0 k := by
  refine ⟨by omega, ?_⟩
  have a : k.natAbs < 2 ^ 63 := by omega
  exact Nat.lt_trans ((Nat.log2_lt (by omega)).mpr a) (by decide)
theorem cdiv_small {j k : Int} (h0 : 0 < k) (h1 : k < 2 ^ 63) : CDivA j k := log2_small h0 h1
theorem jv_div {j k : Int} (ha : JV K ta env (.int j)) (hb : JV K tb env (.int k)) (h0 : 0 < k) (h1 : k < 2 ^ 63) : JV K (tOp (rI CDivA fun i j => .int (i.fdiv j)) ta tb) env (.int (j / k)) :=
  (jv_fdiv ha hb (cdiv_small h0 h1)).eqV (by rw [Int.fdiv_eq_ediv_of_nonneg j (by omega)])
theorem jv_mod {j k : Int} (ha : JV K ta env (.int j)) (hb : JV K tb env (.int k)) (h0 : 0 < k) : JV K (tOp (rI (fun _ j => 0 < j) fun i j => .int (i % j)) ta tb) env (.int (j % k)) := jv_I ha hb h0
theorem jv_pow {j k : Int} (ha : JV K ta env (.int j)) (hb : JV K tb env (.int k)) (h : CPow j k) : JV K (tOp (rI CPow fun i j => .int (i ^ j.toNat)) ta tb) env (.int (j ^ k.toNat)) := jv_I ha hb h
/-! ### comparisons -/
theorem jv_lt {j k : Int} (ha : JV K ta env (.int j)) (hb : JV K tb env (.int k)) : JV K (tOp (rI0 fun i j => .bl (decide (i < j))) ta tb) env (.bl (decide (j < k))) := jv_I0 ha hb
theorem jv_le {j k : Int} (ha : JV K ta env (.int j)) (hb : JV K tb env (.int k)) : JV K (tOp (rI0 fun i j => .bl (decide (i ≤ j))) ta tb) env (.bl (decide (j ≤ k))) := jv_I0 ha hb
theorem jv_gt {j k : Int} (ha : JV K ta env (.int j)) (hb : JV K tb env (.int k)) : JV K (tOp (rI0 fun i j => .bl (decide (j < i))) ta tb) env (.bl (decide (k < j))) := jv_I0 (g := fun i j => .bl (decide (j < i))) ha hb
theorem jv_ge {j k : Int} (ha : JV K ta env (.int j)) (hb : JV K tb env (.int k)) : JV K (tOp (rI0 fun i j => .bl (decide (j ≤ i))) ta tb) env (.bl (decide (k ≤ j))) := jv_I0 (g := fun i j => .bl (decide (j ≤ i))) ha hb
/-! data without a dict -/
mutual
def noDict : D → Bool
  | .list ds => noDicts ds
  | .tuple ds => noDicts ds
  | .dict _ => false
  | _ => true
def noDicts : List D → Bool
  | [] => true
  | d :: ds => noDict d && noDicts ds
end
mutual
theorem Rp.dp {M : As} {H : Hp} : ∀ {v : V} {d : D}, Rp K M H v d → noDict d = true → Dp K H v d
  | _, _, .non, _ => .non
  | _, _, .bl b, _ => .bl b
  | _, _, .int i, _ => .int i
  | _, _, .str x, _ => .str x
  | _, _, .lst h1 h2 h3, h => .lst (SqL.of h2) (RpA.dp h3 (by simpa [noDict] using h))
  | _, _, .tup h2 h3, h => .tup (SqT.of h2) (RpA.dp h3 (by simpa [noDict] using h))
  | _, _, .dct _ _, h => by simp [noDict] at h
  | _, _, .scr _, h => by simp [noDict] at h
theorem RpA.dp {M : As} {H : Hp} : ∀ {vs : List V} {ds : List D}, RpA K M H vs ds → noDicts ds = true → DpAll K H vs ds
  | _, _, .nil, _ => .nil
  | _, _, .cons h1 h2, h => by
    simp only [noDicts, Bool.and_eq_true] at h
    exact .cons (Rp.dp h1 h.1) (RpA.dp h2 h.2)
end
mutual
theorem noDict_lay : ∀ d : D, d.canLay0 = true → noDict d = true
  | .none, _ => rfl
  | .bool _, _ => rfl
  | .int _, _ => rfl
  | .str _, _ => rfl
  | .list ds, h => noDicts_lay ds (by simpa [PyData.canLay0] using h)
  | .tuple ds, h => noDicts_lay ds (by simpa [PyData.canLay0] using h)
  | .dict _, h => by simp [PyData.canLay0] at h
theorem noDicts_lay : ∀ ds : List D, PyData.canLayAll0 ds = true → noDicts ds = true
  | [], _ => rfl
  | d :: ds, h => by
    simp only [PyData.canLayAll0, Bool.and_eq_true] at h
    simp only [noDicts, Bool.and_eq_true]
    exact ⟨noDict_lay d h.1, noDicts_lay ds h.2⟩
end
theorem noDict_shaped {d : D} (h : SeqAt.shaped d = true) : noDict d = true := noDict_lay d (SeqAt.canLay_of_shaped h)
def pE (K : PySem.W.Frag) (d : D) : Po := fun _ _ _ x H' => Dp K H' x d
abbrev JE (K : PySem.W.Frag) (te : TE) (env : List Sl) (d : D) : Prop := Jd K te env (pE K d)
theorem Jd.dE (h : JD K te env n d) (k : noDict d = true := by rfl) : JE K te env d := h.imp fun _ _ _ _ _ _ _ p => Rp.dp p k
theorem Jd.vE (h : JV K te env v) (e : flatD d = some v := by rfl) : JE K te env d := h.imp fun M B H x H' _ _ p => by
  have e' : x = v := p
  subst e'
  have r : Rp K M H' x d := Rp.of_flat e
  cases d <;> simp [flatD] at e <;> subst e
  · exact .non
  · exact .bl _
  · exact .int _
  · exact .str _
theorem Jd.sE (h : JS K te env n ds) (k : noDicts ds = true) : JE K te env (.list ds) := h.imp fun _ _ _ _ _ _ _ ⟨a, vs, h1, h2, h3⟩ => by
  show Dp _ _ _ _
  rw [h1]
  exact .lst (SqL.of h2) (RpA.dp h3 k)
theorem Jd.uE (h : JU K te env n ds) (k : noDicts ds = true) : JE K te env (.tuple ds) := (h.uD).dE (by simpa [noDict] using k)
mutual
theorem Dp.ext {H H' : Hp} (s : Same H H') : ∀ {v : V} {d : D}, Dp K H v d → Dp K H' v d
  | _, _, .non => .non
  | _, _, .bl b => .bl b
  | _, _, .int i => .int i
  | _, _, .str x => .str x
  | _, _, .lst h1 h2 => .lst (s.seq h1) (DpAll.ext s h2)
  | _, _, .tup h1 h2 => .tup (by
      rcases h1 with (h | ⟨o, h⟩) | h
      · exact .inl (.inl (s _ _ h))
      · exact .inl (.inr ⟨o, s _ _ h⟩)
      · exact .inr h) (DpAll.ext s h2)
theorem DpAll.ext {H H' : Hp} (s : Same H H') : ∀ {vs : List V} {ds : List D}, DpAll K H vs ds → DpAll K H' vs ds
  | _, _, .nil => .nil
  | _, _, .cons h1 h2 => .cons (Dp.ext s h1) (DpAll.ext s h2)
end
theorem jv_eq (ha : JE K ta env d) (hb : JE K tb env e) (h1 : SeqAt.shaped d = true) (h2 : SeqAt.shaped e = true) : JV K (tOp (rEqD K) ta tb) env (.bl (PyData.eqv d e)) :=
  Jd.op ha hb fun _ _ _ x y _ H2 _ _ s2 p1 p2 Q q => ⟨d, e, Dp.ext s2 p1, p2, h1, h2, q _ H2 (Same.refl H2) rfl⟩
theorem jv_ne (ha : JE K ta env d) (hb : JE K tb env e) (h1 : SeqAt.shaped d = true) (h2 : SeqAt.shaped e = true) : JV K (tOp (rNeD K) ta tb) env (.bl (!PyData.eqv d e)) :=
  Jd.op ha hb fun _ _ _ x y _ H2 _ _ s2 p1 p2 Q q => ⟨d, e, Dp.ext s2 p1, p2, h1, h2, q _ H2 (Same.refl H2) rfl⟩
theorem eqv_int (i j : Int) : PyData.eqv (.int i) (.int j) = decide (i = j) := by
  simp only [PyData.eqv]
  exact Bool.beq_eq_decide_eq i j
theorem shaped_int (i : Int) : SeqAt.shaped (.int i) = true := by
  simp [SeqAt.shaped, PyData.canLay0, PyData.depth]
theorem jv_eqI {j k : Int} (ha : JV K ta env (.int j)) (hb : JV K tb env (.int k)) : JV K (tOp (rEqD K) ta tb) env (.bl (decide (j = k))) :=
  (jv_eq (ha.vE (d := .int j)) (hb.vE (d := .int k)) (shaped_int j) (shaped_int k)).eqV (by rw [eqv_int])
theorem jv_neI {j k : Int} (ha : JV K ta env (.int j)) (hb : JV K tb env (.int k)) : JV K (tOp (rNeD K) ta tb) env (.bl (!decide (j = k))) :=
  (jv_ne (ha.vE (d := .int j)) (hb.vE (d := .int k)) (shaped_int j) (shaped_int k)).eqV (by rw [eqv_int])
/-- in a list of data -/
theorem jv_inD (ha : JE K ta env d) (hb : JE K tb env (.list es)) (h1 : SeqAt.shaped d = true) (h2 : SeqAt.shaped (.list es) = true) : JV K (tOp (rInD K) ta tb) env (.bl (es.any fun z => PyData.eqv z d)) :=
  Jd.op ha hb fun _ _ _ x y _ H2 _ _ s2 p1 p2 Q q => ⟨d, es, Dp.ext s2 p1, p2, h1, h2, q _ H2 (Same.refl H2) rfl⟩
theorem jv_ninD (ha : JE K ta env d) (hb : JE K tb env (.list es)) (h1 : SeqAt.shaped d = true) (h2 : SeqAt.shaped (.list es) = true) : JV K (tOp (rNotInD K) ta tb) env (.bl (!es.any fun z => PyData.eqv z d)) :=
  Jd.op ha hb fun _ _ _ x y _ H2 _ _ s2 p1 p2 Q q => ⟨d, es, Dp.ext s2 p1, p2, h1, h2, q _ H2 (Same.refl H2) rfl⟩
/-! ### tests -/
theorem jt_test (h : JV K te env (.bl b)) : Jt K (tTest te) env b := fun M B σ H Q w e q => h M B σ H _ w e fun v H' s p => ⟨b, p, q H' s⟩
theorem jt_B (h : JV K te env (.bl b)) : Jt K (tB te) env b := fun M B σ H Q w e q => h M B σ H _ w e fun v H' s p => ⟨b, p, q H' s⟩
theorem Jt.to {b' : Bool} (h : Jt K t env b) (q : b = b') : Jt K t env b' := q ▸ h
theorem jt_not (h : Jt K t env b) : Jt K (tNot t) env (!b) := fun M B σ H Q w e q => h M B σ H _ w e fun H' s => q H' s
theorem jt_and (h : Jt K t env b) (k : b = true → Jt K u env c) : Jt K (tAnd t u) env (b && c) := fun M B σ H Q w e q => h M B σ H _ w e fun H1 s1 => by
  cases b with
  | true => exact iteT (k rfl M B σ H1 Q (w.ext s1) (e.ext s1) fun H2 s2 => q H2 (s1.trans s2))
  | false => exact iteF (q H1 s1)
theorem jt_or (h : Jt K t env b) (k : b = false → Jt K u env c) : Jt K (tOr t u) env (b || c) := fun M B σ H Q w e q => h M B σ H _ w e fun H1 s1 => by
  cases b with
  | true => exact iteT (q H1 s1)
  | false => exact iteF (k rfl M B σ H1 Q (w.ext s1) (e.ext s1) fun H2 s2 => q H2 (s1.trans s2))
theorem jv_and (ha : JV K ta env (.bl b)) (hb : b = true → JV K tb env (.bl c)) : JV K (tAndV ta tb) env (.bl (b && c)) := fun M B σ H Q w e q => ha M B σ H _ w e fun v H1 s1 p1 => ⟨b, p1, by
  cases b with
  | true => exact iteT (hb rfl M B σ H1 Q (w.ext s1) (e.ext s1) fun v H2 s2 p2 => q v H2 (s1.trans s2) p2)
  | false => exact iteF (q _ H1 s1 rfl)⟩
theorem jv_or (ha : JV K ta env (.bl b)) (hb : b = false → JV K tb env (.bl c)) : JV K (tOrV ta tb) env (.bl (b || c)) := fun M B σ H Q w e q => ha M B σ H _ w e fun v H1 s1 p1 => ⟨b, p1, by
  cases b with
  | true => exact iteT (q _ H1 s1 rfl)
  | false => exact iteF (hb rfl M B σ H1 Q (w.ext s1) (e.ext s1) fun v H2 s2 p2 => q v H2 (s1.trans s2) p2)⟩
theorem jv_not (ha : JV K ta env (.bl b)) : JV K (tNotV ta) env (.bl (!b)) := fun M B σ H Q w e q => ha M B σ H _ w e fun v H1 s1 p1 => ⟨b, p1, q _ H1 s1 rfl⟩
theorem Jd.mono0 (h : Jd K te env P) (pm : ∀ M B H H1 v H2, Same H H1 → P M B H1 v H2 → P M B H v H2) {M B : As} {σ : St} {H H1 : Hp} {Q : VK} (w : Wf M B H) (e : EnvOk K M B H σ env) (s : Same H H1) (q : ∀ v H', Same H H' → P M B H v H' → Q v H') : te σ H1 Q :=
  h M B σ H1 Q (w.ext s) (e.ext s) fun v H2 s2 p => q v H2 (s.trans s2) (pm M B H H1 v H2 s p)
theorem jd_if (h : Jt K t env b) (ha : b = true → Jd K ta env P) (hb : b = false → Jd K tb env P) (pm : ∀ M B H H1 v H2, Same H H1 → P M B H1 v H2 → P M B H v H2) : Jd K (tIf t ta tb) env P := fun M B σ H Q w e q => h M B σ H _ w e fun H1 s1 => by
  cases b with
  | true => exact iteT ((ha rfl).mono0 pm w e s1 q)
  | false => exact iteF ((hb rfl).mono0 pm w e s1 q)
theorem jv_if {p q : Int} (h : Jt K t env b) (ha : b = true → JV K ta env x) (hb : b = false → JV K tb env y) : JV K (tIf t ta tb) env (if b = true then x else y) :=
  jd_if h (fun e => (ha e).eqV (by rw [e]; rfl)) (fun e => (hb e).eqV (by rw [e]; rfl)) fun _ _ _ _ _ _ _ p => p
theorem jv_chain {j k l : Int} (ha : JV K ta env (.int j)) (hb : JV K tb env (.int k)) (hc : JV K tc env (.int l)) :
    JV K (tChain (rI0 fun i j => .bl (decide (i ≤ j))) (rI0 fun i j => .bl (decide (i < j))) ta tb tc) env (.bl (decide (j ≤ k) && decide (k < l))) := fun M B σ H Q w e q =>
  ha M B σ H _ w e fun x H1 s1 p1 => hb M B σ H1 _ (w.ext s1) (e.ext s1) fun y H2 s2 p2 => ⟨j, k, p1, p2, decide (j ≤ k), rfl, by
    cases hd : decide (j ≤ k) with
    | true => exact iteT (hc M B σ H2 _ (w.ext (s1.trans s2)) (e.ext (s1.trans s2)) fun z H3 s3 p3 => ⟨k, l, p2, p3, q _ H3 ((s1.trans s2).trans s3) (by rw [hd]; rfl)⟩)
    | false => exact iteF (q _ H2 (s1.trans s2) (by rw [hd]; rfl))⟩
/-! ### isinstance -/
def tyN : D → String
  | .none => "NoneType"
  | .bool _ => "bool"
  | .int _ => "int"
  | .str _ => "str"
  | .list _ => "list"
  | .tuple _ => "tuple"
  | .dict _ => "dict"
def isScr : D → Bool
  | .dict (_ :: _) => true
  | _ => false
theorem Rp.ty {M : As} {H : Hp} {v : V} {d : D} (h : Rp K M H v d) (hs : isScr d = false) : TyX K H v (.type (tyN d)) := by
  cases h with
  | non => exact .base .non
  | bl b => exact .base (.bl b)
  | int i => exact .base (.int i)
  | str x => exact .base (.str x)
  | lst h1 h2 h3 => exact .base (.lst h2)
  | tup h2 h3 => exact .base (.tup h2)
  | dct h1 h2 => exact .base (.dK h2)
  | scr h1 => simp [isScr] at hs
theorem jv_isi {T : String} (ha : JD K ta env n d) (hk : kitB (tyN d) T = some b) (hs : isScr d = false := by rfl) : JV K (tCB (rIsi K) (tCons ta (tCons (tC (.ty T)) tNil))) env (.bl b) := fun M B σ H Q w e q =>
  ha M B σ H _ w e fun x H1 s1 p1 => ⟨x, .ty T, .type (tyN d), .type T, b, rfl, .ty T, Rp.ty p1 hs, kit_ty hk, q _ H1 s1 rfl⟩
end
end DL

namespace DL
open PySem L2
section
variable {K : PySem.W.Frag} {env : List Sl} {te ta tb tc : TE} {tt t u : TT} {P P' : Po} {n m : Bool} {d e : D} {ds es : List D} {v x y z : V} {b c : Bool} {i : Nat} {α : Type}
/-! ### one builtin of one value -/
theorem jd_cb1 {r : List V → Hp → VK → Prop} {Pa : Po} (ha : Jd K ta env Pa) (hr : ∀ (M B : As) (H : Hp) (x : V) (H1 : Hp), Wf M B H → Same H H1 → Pa M B H x H1 → ∀ Q : VK, (∀ v H3, Same H1 H3 → P M B H v H3 → Q v H3) → r [x] H1 Q) : Jd K (tCB r (tCons ta tNil)) env P :=
  fun M B σ H Q w e q => ha M B σ H _ w e fun x H1 s1 p1 => hr M B H x H1 w s1 p1 Q fun v H3 s3 p3 => q v H3 (s1.trans s3) p3
theorem jd_cb2 {r : List V → Hp → VK → Prop} {Pa Pb : Po} (ha : Jd K ta env Pa) (hb : Jd K tb env Pb)
    (hr : ∀ (M B : As) (H : Hp) (x y : V) (H1 H2 : Hp), Wf M B H → Same H H1 → Same H1 H2 → Pa M B H x H1 → Pb M B H1 y H2 → ∀ Q : VK, (∀ v H3, Same H2 H3 → P M B H v H3 → Q v H3) → r [x, y] H2 Q) : Jd K (tCB r (tCons ta (tCons tb tNil))) env P :=
  fun M B σ H Q w e q => ha M B σ H _ w e fun x H1 s1 p1 => hb M B σ H1 _ (w.ext s1) (e.ext s1) fun y H2 s2 p2 => hr M B H x y H1 H2 w s1 s2 p1 p2 Q fun v H3 s3 p3 => q v H3 ((s1.trans s2).trans s3) p3
abbrev rLenQ (K : PySem.W.Frag) : List V → Hp → VK → Prop := fun xs H Q => ∃ p ys, xs = [.ref p] ∧ (SqL K H p ys ∨ SqT K H p ys) ∧ Q (.int ys.length) H
theorem jv_len (ha : JS K ta env n ds) : JV K (tCB (rLenQ K) (tCons ta tNil)) env (.int (ds.length : Int)) := jd_cb1 ha fun _ _ _ _ H1 _ _ ⟨a, vs, h1, h2, h3⟩ Q q => by
  rw [h1]
  exact ⟨a, vs, rfl, .inl (SqL.of h2), q _ H1 (Same.refl H1) (by rw [h3.length]; rfl)⟩
theorem jv_lenU (ha : JU K ta env n ds) : JV K (tCB (rLenQ K) (tCons ta tNil)) env (.int (ds.length : Int)) := jd_cb1 ha fun _ _ _ _ H1 _ _ ⟨a, vs, h1, h2, h3⟩ Q q => by
  rw [h1]
  exact ⟨a, vs, rfl, .inr (SqT.of h2), q _ H1 (Same.refl H1) (by rw [h3.length]; rfl)⟩
abbrev rListQ (K : PySem.W.Frag) : List V → Hp → VK → Prop := fun xs H Q => ∃ p ys, xs = [.ref p] ∧ (SqL K H p ys ∨ SqT K H p ys) ∧ ∀ l, H l = none → Q (.ref l) (upd H l (.lst ys))
theorem jn_list (ha : JS K ta env n ds) : JN K (tCB (rListQ K) (tCons ta tNil)) env n ds := jd_cb1 ha fun _ _ _ _ H1 w s ⟨a, vs, h1, h2, h3⟩ Q q => by
  rw [h1]
  exact ⟨a, vs, rfl, .inl (SqL.of h2), fun p hp => q _ _ (same_upd hp) (jn_new w s hp h3)⟩
theorem jn_listU (ha : JU K ta env n ds) : JN K (tCB (rListQ K) (tCons ta tNil)) env n ds := jd_cb1 ha fun _ _ _ _ H1 w s ⟨a, vs, h1, h2, h3⟩ Q q => by
  rw [h1]
  exact ⟨a, vs, rfl, .inr (SqT.of h2), fun p hp => q _ _ (same_upd hp) (jn_new w s hp h3)⟩
abbrev rTupQ (K : PySem.W.Frag) : List V → Hp → VK → Prop := fun xs H Q => ∃ p ys, xs = [.ref p] ∧ ((SqL K H p ys ∧ ∀ l, H l = none → Q (.ref l) (upd H l (.tup ys))) ∨ (SqT K H p ys ∧ Q (.ref p) H))
theorem ju_tuple (ha : JS K ta env n ds) : JU K (tCB (rTupQ K) (tCons ta tNil)) env n ds := jd_cb1 ha fun _ _ _ _ H1 w s ⟨a, vs, h1, h2, h3⟩ Q q => by
  rw [h1]
  exact ⟨a, vs, rfl, .inl ⟨SqL.of h2, fun p hp => q _ _ (same_upd hp) ⟨p, vs, rfl, upd_same, (Keep.ext (same_upd hp)).rpA h3⟩⟩⟩
abbrev rMin2 : List V → Hp → VK → Prop := fun xs H Q => ∃ i j, xs = [.int i, .int j] ∧ Q (.int (if j < i then j else i)) H
abbrev rMax2 : List V → Hp → VK → Prop := fun xs H Q => ∃ i j, xs = [.int i, .int j] ∧ Q (.int (if j > i then j else i)) H
theorem jv_min2 {j k : Int} (ha : JV K ta env (.int j)) (hb : JV K tb env (.int k)) : JV K (tCB rMin2 (tCons ta (tCons tb tNil))) env (.int (min j k)) := jd_cb2 ha hb fun _ _ _ x y _ H2 _ _ _ p1 p2 Q q => by
  have e1 : x = V.int j := p1
  have e2 : y = V.int k := p2
  rw [e1, e2]
  refine ⟨j, k, rfl, q _ H2 (Same.refl H2) ?_⟩
  show V.int _ = V.int _
  congr 1
  split <;> omega
theorem jv_max2 {j k : Int} (ha : JV K ta env (.int j)) (hb : JV K tb env (.int k)) : JV K (tCB rMax2 (tCons ta (tCons tb tNil))) env (.int (max j k)) := jd_cb2 ha hb fun _ _ _ x y _ H2 _ _ _ p1 p2 Q q => by
  have e1 : x = V.int j := p1
  have e2 : y = V.int k := p2
  rw [e1, e2]
  refine ⟨j, k, rfl, q _ H2 (Same.refl H2) ?_⟩
  show V.int _ = V.int _
  congr 1
  split <;> omega
abbrev rInt1 : List V → Hp → VK → Prop := fun xs H Q => (∃ i, xs = [.int i] ∧ Q (.int i) H) ∨ ∃ k, xs = [.bl k] ∧ Q (.int (if k then 1 else 0)) H
theorem jv_intB (ha : JV K ta env (.bl b)) : JV K (tCB rInt1 (tCons ta tNil)) env (.int (if b then 1 else 0)) := jd_cb1 ha fun _ _ _ x H1 _ _ p1 Q q => by
  have e1 : x = V.bl b := p1
  rw [e1]
  exact .inr ⟨b, rfl, q _ H1 (Same.refl H1) rfl⟩
theorem jv_all {bs : List Bool} (ha : JS K ta env n (bs.map PyData.bool)) : JV K (tCB (rAll K) (tCons ta tNil)) env (.bl (bs.all id)) := jd_cb1 ha fun _ _ _ _ H1 _ _ ⟨a, vs, h1, h2, h3⟩ Q q => by
  rw [h1]
  refine ⟨a, bs, rfl, ?_, q _ H1 (Same.refl H1) rfl⟩
  rw [← RpA.bools_inv h3]
  exact SqL.of h2
theorem jv_sum {ns : List Int} (ha : JS K ta env n (ns.map PyData.int)) : JV K (tCB (rSum K) (tCons ta tNil)) env (.int ns.sum) := jd_cb1 ha fun _ _ _ _ H1 _ _ ⟨a, vs, h1, h2, h3⟩ Q q => by
  rw [h1]
  refine ⟨a, ns, rfl, ?_, q _ H1 (Same.refl H1) rfl⟩
  rw [← RpA.ints_inv h3]
  exact SqL.of h2
/-- sorted of ints -/
theorem perm_sorted {xs ys : List Int} (h : xs.Perm ys) (h1 : xs.Pairwise (· ≤ ·)) (h2 : ys.Pairwise (· ≤ ·)) : xs = ys := h.eq_of_pairwise (fun a b _ _ p q => Int.le_antisymm p q) h1 h2
theorem jn_sorted {ns ms : List Int} (ha : JS K ta env n (ns.map PyData.int)) (hz : ns.length < 64) (hp : ms.Perm ns) (hs : ms.Pairwise (· ≤ ·)) : JN K (tCB (rSorted K) (tCons ta tNil)) env m (ms.map PyData.int) := jd_cb1 ha fun _ _ _ _ H1 w s ⟨a, vs, h1, h2, h3⟩ Q q => by
  rw [h1]
  refine ⟨a, ns, rfl, ?_, hz, fun ns' p pm st np => q _ _ (same_upd np) ?_⟩
  · rw [← RpA.ints_inv h3]
    exact SqL.of h2
  · rw [perm_sorted (pm.trans hp.symm) st hs]
    exact jn_new w s np (RpA.ints ms)
/-! ### places -/
theorem atI_len {β : Type} {xs : List α} {ys : List β} {k : Int} {x : α} (hl : xs.length = ys.length) (h : atI xs k = some x) : ∃ j : Nat, xs[j]? = some x ∧ atI ys k = ys[j]? := by
  unfold atI at h ⊢
  rw [← hl]
  cases e : ixN xs.length k with
  | none => rw [e] at h; cases h
  | some j => rw [e] at h; exact ⟨j, h, rfl⟩
theorem jd_ixL {k : Int} (ha : JS K ta env n ds) (hb : JV K tb env (.int k)) (h : atI ds k = some d) : JD K (tOp (rIx K) ta tb) env n d :=
  Jd.op ha hb fun _ _ _ x y _ H2 _ _ s2 ⟨a, vs, h1, h2, h3⟩ p2 Q q => by
    have e2 : y = V.int k := p2
    rw [h1, e2]
    obtain ⟨j, hj, hv⟩ := atI_len (ys := vs) h3.length.symm h
    obtain ⟨v, v1, v2⟩ := h3.get hj
    exact .inl ⟨a, vs, k, v, rfl, rfl, SqL.of (s2 _ _ h2), hv.trans v1, q v H2 (Same.refl H2) ((Keep.ext s2).rp v2)⟩
theorem jd_ixU {k : Int} (ha : JU K ta env n ds) (hb : JV K tb env (.int k)) (h : atI ds k = some d) : JD K (tOp (rIx K) ta tb) env n d :=
  Jd.op ha hb fun _ _ _ x y _ H2 _ _ s2 ⟨a, vs, h1, h2, h3⟩ p2 Q q => by
    have e2 : y = V.int k := p2
    rw [h1, e2]
    obtain ⟨j, hj, hv⟩ := atI_len (ys := vs) h3.length.symm h
    obtain ⟨v, v1, v2⟩ := h3.get hj
    exact .inr (.inl ⟨a, vs, k, v, rfl, rfl, SqT.of (s2 _ _ h2), hv.trans v1, q v H2 (Same.refl H2) ((Keep.ext s2).rp v2)⟩)
theorem atI_map {β : Type} (f : α → β) (xs : List α) {k : Int} {j : Nat} (dflt : α) (hk : k = (j : Int)) (hj : j < xs.length) : atI (xs.map f) k = some (f (xs.getD j dflt)) := by
  rw [hk]
  refine atI_nat ?_
  rw [List.getElem?_map, List.getElem?_eq_getElem hj, List.getD_eq_getElem?_getD, List.getElem?_eq_getElem hj]
  rfl
theorem jd_ixE {enc : α → D} {xs : List α} {k : Int} (j : Nat) (dflt : α) (ha : JS K ta env n (xs.map enc)) (hb : JV K tb env (.int k)) (hk : k = (j : Int)) (hj : j < xs.length) : JD K (tOp (rIx K) ta tb) env n (enc (xs.getD j dflt)) :=
  jd_ixL ha hb (atI_map enc xs dflt hk hj)
/-! ### lists and tuples as they are written -/
def JAs (K : PySem.W.Frag) (ta : TA) (env : List Sl) (n : Bool) (ds : List D) : Prop :=
  ∀ (M B : As) (σ : St) (H : Hp) (Q : List V → Hp → Prop), Wf M B H → EnvOk K M B H σ env → (∀ vs H', Same H H' → RpA K (Sn n M B) H' vs ds → Q vs H') → ta σ H Q
theorem ja_nil : JAs K tNil env n [] := fun M B σ H Q w e q => q [] H (Same.refl H) .nil
theorem ja_cons {ta : TA} (h : JD K te env n d) (k : JAs K ta env n ds) : JAs K (tCons te ta) env n (d :: ds) := fun M B σ H Q w e q =>
  h M B σ H _ w e fun v H1 s1 p1 => k M B σ H1 _ (w.ext s1) (e.ext s1) fun vs H2 s2 p2 => q (v :: vs) H2 (s1.trans s2) (.cons ((Keep.ext s2).rp p1) p2)
theorem jn_lst {ta : TA} (h : JAs K ta env n ds) (hz : ds.length ≤ 100000) : JN K (tLst ta) env n ds := fun M B σ H Q w e q =>
  h M B σ H _ w e fun vs H1 s1 r => ⟨szl (by rw [r.length]; exact hz), fun p hp => q _ _ (s1.trans (same_upd hp)) (jn_new w s1 hp r)⟩
theorem ju_tup {ta : TA} (h : JAs K ta env n ds) (hz : ds.length ≤ 100000) : JU K (tTup ta) env n ds := fun M B σ H Q w e q =>
  h M B σ H _ w e fun vs H1 s1 r => ⟨szl (by rw [r.length]; exact hz), fun p hp => q _ _ (s1.trans (same_upd hp)) ⟨p, vs, rfl, upd_same, (Keep.ext (same_upd hp)).rpA r⟩⟩
/-! ### slices -/
def JO (K : PySem.W.Frag) (to : TO) (env : List Sl) (o : Option Int) : Prop := ∀ (M B : As) (σ : St) (H : Hp) (Q : Option Int → Hp → Prop), Wf M B H → EnvOk K M B H σ env → (∀ H', Same H H' → Q o H') → to σ H Q
theorem jo_none : JO K tNoPart env none := fun M B σ H Q w e q => q H (Same.refl H)
theorem jo_some {k : Int} (h : JV K te env (.int k)) : JO K (tPart te) env (some k) := fun M B σ H Q w e q => h M B σ H _ w e fun v H1 s1 p1 => ⟨k, p1, q H1 s1⟩
def cutG (xs : List α) (lo hi : Option Int) : List α := (xs.drop (HT.sIx xs.length 0 lo)).take (HT.sIx xs.length xs.length hi - HT.sIx xs.length 0 lo)
theorem cutG_map {β : Type} (f : α → β) (xs : List α) (lo hi : Option Int) : cutG (xs.map f) lo hi = (cutG xs lo hi).map f := by
  unfold cutG
  rw [List.length_map, List.map_take, List.map_drop]
theorem cutG_from (xs : List α) (k : Nat) : cutG xs (some (k : Int)) none = xs.drop k := by
  unfold cutG
  rw [HT.sIx_nat, HT.sIx_none]
  by_cases h : k ≤ xs.length
  · rw [Nat.min_eq_left h, List.take_of_length_le (by rw [List.length_drop]; exact Nat.le_refl _)]
  · rw [Nat.min_eq_right (by omega), List.drop_of_length_le (Nat.le_refl _), List.drop_of_length_le (by omega)]
    exact List.take_nil
theorem cutG_to (xs : List α) (k : Nat) : cutG xs none (some (k : Int)) = xs.take k := by
  unfold cutG
  rw [HT.sIx_nat, HT.sIx_none, List.drop_zero, Nat.sub_zero]
  by_cases h : k ≤ xs.length
  · rw [Nat.min_eq_left h]
  · rw [Nat.min_eq_right (by omega), List.take_of_length_le (Nat.le_refl _), List.take_of_length_le (by omega)]
theorem cutG_mid (xs : List α) (j k : Nat) (h : j ≤ xs.length) : cutG xs (some (j : Int)) (some (k : Int)) = (xs.drop j).take (k - j) := by
  unfold cutG
  rw [HT.sIx_nat, HT.sIx_nat, Nat.min_eq_left h]
  by_cases q : k ≤ xs.length
  · rw [Nat.min_eq_left q]
  · rw [Nat.min_eq_right (by omega), List.take_of_length_le (by rw [List.length_drop]; exact Nat.le_refl _), List.take_of_length_le (by rw [List.length_drop]; omega)]
theorem RpA.cut {M : As} {H : Hp} {vs : List V} (r : RpA K M H vs ds) (lo hi : Option Int) : RpA K M H (cutV vs lo hi) (cutG ds lo hi) := by
  unfold cutV cutG
  rw [r.length]
  exact (r.drop _).take _
theorem jn_slice {tl th : TO} {lo hi : Option Int} (ha : JS K te env n ds) (hl : JO K tl env lo) (hh : JO K th env hi) : JN K (tSl (rSlL K) te tl th) env n (cutG ds lo hi) := fun M B σ H Q w e q =>
  ha M B σ H _ w e fun x H1 s1 ⟨a, vs, h1, h2, h3⟩ => hl M B σ H1 _ (w.ext s1) (e.ext s1) fun H2 s2 => hh M B σ H2 _ (w.ext (s1.trans s2)) (e.ext (s1.trans s2)) fun H3 s3 => by
    rw [h1]
    refine ⟨a, vs, rfl, SqL.of (s3 _ _ (s2 _ _ h2)), fun p hp => q _ _ (((s1.trans s2).trans s3).trans (same_upd hp)) ?_⟩
    exact jn_new w ((s1.trans s2).trans s3) hp ((Keep.ext (s2.trans s3)).rpA (h3.cut lo hi))
/-! ### targets -/
def wipeE (env : List Sl) : List Nat → List Sl
  | [] => env
  | v :: vs => (wipeE env vs).set v .un
theorem EnvOk.wipe {M B : As} {H : Hp} {σ : St} (x : EnvOk K M B H σ env) : ∀ vs : List Nat, EnvOk K M B H (L2.wipe σ vs) (wipeE env vs)
  | [] => x
  | v :: vs => by
    unfold L2.wipe wipeE
    exact (EnvOk.wipe x vs).set trivial
/-- what is owned behind a target was owned before -/
def OwnSub (env env' : List Sl) (js : List Nat) : Prop := ∀ (i : Nat) n ds, env'[i]? = some (.own n ds) → env[i]? = some (.own n ds) ∧ i ∉ js
theorem OwnSub.set {env : List Sl} {j : Nat} {n : Bool} {d : D} : OwnSub env (env.set j (.val n d)) [j] := fun i m ds h => by
  by_cases z : j = i
  · subst z
    by_cases hi : j < env.length
    · rw [List.getElem?_set_self hi] at h
      cases h
    · rw [List.getElem?_eq_none (by rw [List.length_set]; omega)] at h
      cases h
  · rw [List.getElem?_set_ne z] at h
    exact ⟨h, fun y => z (List.mem_singleton.mp y).symm⟩
structure TgOk (K : PySem.W.Frag) (g : TG) (d : D) (n : Bool) (env env' : List Sl) (js : List Nat) : Prop where
  run : ∀ (M B : As) (σ : St) (H : Hp) (v : V) (Q : St → Hp → Prop), EnvOk K M B H σ env → Rp K (Sn n M B) H v d → (∀ σ', EnvOk K M B H σ' env' → (∀ j, j ∉ js → σ'[j]? = σ[j]?) → σ'.length = σ.length → Q σ' H) → g v σ H Q
  own : OwnSub env env' js
theorem tg_name {j : Nat} : TgOk K (gName j) d n env (env.set j (.val n d)) [j] := ⟨fun M B σ H v Q e r q =>
  q (σ.set j (some v)) (e.set (ov := some v) (s := .val n d) ⟨v, rfl, r⟩) (fun i hi => List.getElem?_set_ne (fun z => hi (by rw [z]; exact List.mem_singleton.mpr rfl))) List.length_set, OwnSub.set⟩
theorem tg_two {j k : Nat} {d1 d2 : D} : TgOk K (gTup K 2 (gCons (gName j) (gCons (gName k) gNil))) (.tuple [d1, d2]) n env ((env.set j (.val n d1)).set k (.val n d2)) [j, k] := ⟨fun M B σ H v Q e r q => by
  obtain ⟨a, vs, h1, h2, h3⟩ := Rp.tup_inv r
  cases h3 with
  | cons r1 h3 =>
    cases h3 with
    | cons r2 h3 =>
      cases h3
      refine ⟨a, _, h1, SqT.of h2, rfl, _, _, rfl, _, _, rfl, rfl, ?_⟩
      refine q _ ((e.set (ov := some _) (s := .val n d1) ⟨_, rfl, r1⟩).set (ov := some _) (s := .val n d2) ⟨_, rfl, r2⟩) (fun i hi => ?_) (by rw [List.length_set, List.length_set])
      rw [List.getElem?_set_ne (fun z => hi (by rw [z]; simp)), List.getElem?_set_ne (fun z => hi (by rw [z]; simp))], fun i m ds h => by
  obtain ⟨h1, n1⟩ := OwnSub.set i m ds h
  obtain ⟨h2, n2⟩ := OwnSub.set i m ds h1
  refine ⟨h2, fun z => ?_⟩
  rcases List.mem_cons.mp z with z | z
  · exact n2 (by rw [z]; exact List.mem_singleton.mpr rfl)
  · exact n1 z⟩
theorem wipe_get {σ : St} : ∀ {vs : List Nat} {i : Nat}, i ∉ vs → (L2.wipe σ vs)[i]? = σ[i]?
  | [], i, _ => rfl
  | v :: vs, i, h => by
    unfold L2.wipe
    rw [List.getElem?_set_ne (fun z => h (by rw [z]; exact List.mem_cons_self)), wipe_get (fun z => h (List.mem_cons_of_mem _ z))]
theorem wipe_none {σ : St} : ∀ {vs : List Nat} {i : Nat}, i ∈ vs → i < σ.length → (L2.wipe σ vs)[i]? = some none
  | v :: vs, i, h, hi => by
    unfold L2.wipe
    by_cases z : v = i
    · rw [z, List.getElem?_set_self (by rw [L2.wipe_length]; exact hi)]
    · rw [List.getElem?_set_ne z]
      exact wipe_none ((List.mem_cons.mp h).resolve_left fun y => z y.symm) hi
theorem wipe_eq {σ σ' : St} {vs : List Nat} (hl : σ'.length = σ.length) (h : ∀ j, j ∉ vs → σ'[j]? = σ[j]?) : L2.wipe σ' vs = L2.wipe σ vs := by
  refine List.ext_getElem? fun i => ?_
  by_cases z : i ∈ vs
  · by_cases hi : i < σ.length
    · rw [wipe_none z hi, wipe_none z (by rw [hl]; exact hi)]
    · rw [List.getElem?_eq_none (by rw [L2.wipe_length]; omega), List.getElem?_eq_none (by rw [L2.wipe_length]; omega)]
  · rw [wipe_get z, wipe_get z, h i z]
/-! ### comprehensions -/
theorem Wf.add {M B : As} {H : Hp} {p : Addr} (w : Wf M B H) (hp : H p ≠ none) : Wf (fun a => M a ∨ a = p) (fun a => B a ∨ a = p) H :=
  ⟨fun a h => h.imp_left (w.sub a), fun a h => h.elim (w.trk a) fun z => by rw [z]; exact hp⟩
theorem sn_add {M B : As} {p : Addr} (n : Bool) : Sn n (fun a => M a ∨ a = p) (fun a => B a ∨ a = p) = fun a => Sn n M B a ∨ a = p := by cases n <;> rfl
theorem EnvOk.add {M B : As} {H H' : Hp} {σ : St} {p : Addr} (x : EnvOk K M B H σ env) (s : Same H H') (hp : H p = none) : EnvOk K (fun a => M a ∨ a = p) (fun a => B a ∨ a = p) H' σ env :=
  x.keep (fun q h xs e => ⟨.inl h, s _ _ e⟩) fun n => by
    rw [sn_add]
    exact .same s fun a m => m.imp_right fun z => by rw [z]; exact hp
/-- what is taken so far -/
def kept (keep : α → Bool) (f : α → D) (xs : List α) (i : Nat) : List D := ((xs.take i).filter keep).map f
theorem kept_yes {keep : α → Bool} {f : α → D} {xs : List α} {i : Nat} {x : α} (h : xs[i]? = some x) (k : keep x = true) : kept keep f xs (i + 1) = kept keep f xs i ++ [f x] := by
  unfold kept
  rw [List.take_add_one, h]
  simp [k]
theorem kept_no {keep : α → Bool} {f : α → D} {xs : List α} {i : Nat} {x : α} (h : xs[i]? = some x) (k : keep x = false) : kept keep f xs (i + 1) = kept keep f xs i := by
  unfold kept
  rw [List.take_add_one, h]
  simp [k]
theorem kept_len {keep : α → Bool} {f : α → D} {xs : List α} {i : Nat} : (kept keep f xs i).length ≤ xs.length := by
  unfold kept
  rw [List.length_map]
  refine Nat.le_trans (List.length_filter_le _ _) ?_
  rw [List.length_take]
  exact Nat.min_le_right _ _
/-- where a comprehension's turn begins: its list at Dl -/
structure LcAt (K : PySem.W.Frag) (M B : As) (H0 : Hp) (n : Bool) (Dl : Addr) (acc : List D) (H' : Hp) : Prop where
  same : Same H0 H'
  free : H0 Dl = none
  at_ : ∃ vs, H' Dl = some (.lst vs) ∧ RpA K (fun b => Sn n M B b ∨ b = Dl) H' vs acc
theorem LcAt.start {M B : As} {H0 : Hp} {Dl : Addr} (h : H0 Dl = none) : LcAt K M B H0 n Dl [] (upd H0 Dl (.lst [])) := ⟨same_upd h, h, [], upd_same, .nil⟩
theorem LcAt.push {M B : As} {H0 H' H2 : Hp} {Dl : Addr} {acc : List D} (L : LcAt K M B H0 n Dl acc H') (s : Same H' H2) {v : V} (r : Rp K (fun b => Sn n M B b ∨ b = Dl) H2 v d) {vs : List V} (hv : H2 Dl = some (.lst vs)) : LcAt K M B H0 n Dl (acc ++ [d]) (upd H2 Dl (.lst (vs ++ [v]))) := by
  obtain ⟨us, h1, h2⟩ := L.at_
  have e : us = vs := by
    have q := s _ _ h1
    rw [hv] at q
    cases q; rfl
  subst e
  have km : Keep (fun b => Sn n M B b ∨ b = Dl) (fun b => Sn n M B b ∨ b = Dl) H2 (upd H2 Dl (.lst (us ++ [v]))) := .mut (.inr rfl) hv
  refine ⟨fun a o q => ?_, L.free, us ++ [v], upd_same, (km.rpA ((Keep.ext s).rpA h2)).append (.cons (km.rp r) .nil)⟩
  rw [upd_ne (ne_of_none q L.free)]
  exact s _ _ (L.same _ _ q)
theorem LcAt.ext {M B : As} {H0 H' H2 : Hp} {Dl : Addr} {acc : List D} (L : LcAt K M B H0 n Dl acc H') (s : Same H' H2) : LcAt K M B H0 n Dl acc H2 := by
  obtain ⟨us, h1, h2⟩ := L.at_
  exact ⟨L.same.trans s, L.free, us, s _ _ h1, (Keep.ext s).rpA h2⟩
/-- one turn's test and element -/
theorem lc_turn {M B : As} {H0 H' : Hp} {Dl : Addr} {keep : α → Bool} {f : α → D} {xs : List α} {k : Nat} {x : α} {σ2 : St} {env2 : List Sl} {Nx : Hp → Prop} (hx : xs[k]? = some x) (hz : xs.length ≤ 100000)
    (w : Wf M B H0) (L : LcAt K M B H0 n Dl (kept keep f xs k) H') (e2 : EnvOk K (fun a => M a ∨ a = Dl) (fun a => B a ∨ a = Dl) H' σ2 env2)
    (ht : Jt K tt env2 (keep x)) (he : keep x = true → JD K te env2 n (f x)) (hN : ∀ H2, LcAt K M B H0 n Dl (kept keep f xs (k + 1)) H2 → Nx H2) :
    tt σ2 H' fun b H3 => if b = true then te σ2 H3 fun y H4 => ∃ acc, H4 Dl = some (.lst acc) ∧ acc.length < sizeLine ∧ Nx (upd H4 Dl (.lst (acc ++ [y]))) else Nx H3 := by
  have hD : H' Dl ≠ none := by
    obtain ⟨us, h1, _⟩ := L.at_
    rw [h1]; exact fun z => nomatch z
  have w2 : Wf (fun a => M a ∨ a = Dl) (fun a => B a ∨ a = Dl) H' := (w.ext L.same).add hD
  refine ht _ _ σ2 H' _ w2 e2 fun H3 s3 => ?_
  cases kk : keep x with
  | false =>
    refine iteF (hN H3 ?_)
    rw [kept_no hx kk]
    exact L.ext s3
  | true =>
    refine iteT (he kk _ _ σ2 H3 _ (w2.ext s3) (e2.ext s3) fun y H4 s4 r => ?_)
    have r' : Rp K (fun b => Sn n M B b ∨ b = Dl) H4 y (f x) := by
      have q : Rp K (Sn n (fun a => M a ∨ a = Dl) (fun a => B a ∨ a = Dl)) H4 y (f x) := r
      rw [sn_add] at q
      exact q
    obtain ⟨us, h1, h2⟩ := L.at_
    have h4 : H4 Dl = some (.lst us) := s4 _ _ (s3 _ _ h1)
    refine ⟨us, h4, szl' (by rw [h2.length]; have := kept_len (keep := keep) (f := f) (xs := xs) (i := k); have := (List.getElem?_eq_some_iff.mp hx).1; unfold kept; rw [List.length_map]; refine Nat.lt_of_le_of_lt (List.length_filter_le _ _) ?_; rw [List.length_take]; omega), hN _ ?_⟩
    rw [kept_yes hx kk]
    exact L.push (s3.trans s4) r' h4
theorem LcAt.pn {M B : As} {H H0 H' : Hp} {Dl : Addr} {acc : List D} (s : Same H H0) (L : LcAt K M B H0 n Dl acc H') : pN K n acc M B H (.ref Dl) H' := by
  obtain ⟨us, h1, h2⟩ := L.at_
  exact ⟨Dl, us, rfl, s.free L.free, h1, h2⟩
theorem kept_all {keep : α → Bool} {f : α → D} {xs : List α} : kept keep f xs xs.length = (xs.filter keep).map f := by unfold kept; rw [List.take_length]
/-- over a list -/
theorem jn_lcL {tl : TE} {g : TG} {vs : List Nat} {n0 : Bool} {enc : α → D} (xs : List α) (keep : α → Bool) (f : α → D) (hl : JS K tl env n0 (xs.map enc)) (hz : xs.length ≤ 100000)
    (hx : ∀ x, x ∈ xs → ∃ env2, TgOk K g (enc x) n0 (wipeE env vs) env2 vs ∧ Jt K tt env2 (keep x) ∧ (keep x = true → JD K te env2 n (f x))) :
    JN K (tLc (iList K tl) g tt te vs) env n ((xs.filter keep).map f) := fun M B σ H Q w e q =>
  hl M B σ H _ w e fun x H1 s1 ⟨a, us, h1, h2, h3⟩ => by
    refine ⟨a, h1, ⟨us, SqL.of h2⟩, fun Dl hD => ?_⟩
    have hlen : us.length = xs.length := by rw [h3.length, List.length_map]
    refine lc_list (K := K) (a := a) (xs := us) (fun k H' => LcAt K M B H1 n Dl (kept keep f xs k) H') (by unfold kept; rw [List.take_zero]; exact LcAt.start hD) (fun k H' _ L => SqL.of (L.same _ _ h2)) (fun k v H' hk L => ?_) (fun H' L => ?_)
    · have hk' : k < xs.length := by rw [← hlen]; exact (List.getElem?_eq_some_iff.mp hk).1
      obtain ⟨x, hx1⟩ : ∃ x, xs[k]? = some x := ⟨_, List.getElem?_eq_getElem hk'⟩
      obtain ⟨env2, tg, ht, he⟩ := hx x (List.mem_of_getElem? hx1)
      obtain ⟨d, hd, rd⟩ := h3.getV hk
      have ed : d = enc x := by
        rw [List.getElem?_map, hx1] at hd
        exact (Option.some.inj hd).symm
      rw [ed] at rd
      have e' : EnvOk K (fun a => M a ∨ a = Dl) (fun a => B a ∨ a = Dl) H' (L2.wipe σ vs) (wipeE env vs) := ((e.ext s1).add L.same hD).wipe vs
      have rd' : Rp K (Sn n0 (fun a => M a ∨ a = Dl) (fun a => B a ∨ a = Dl)) H' v (enc x) := by
        rw [sn_add]
        exact (Keep.same L.same fun a m => m.imp_right fun z => by rw [z]; exact hD).rp rd
      refine tg.run _ _ (L2.wipe σ vs) H' v _ e' rd' fun σ2 e2 o2 l2 => ⟨?_, lc_turn hx1 hz (w.ext s1) L e2 ht he fun H2 L2 => L2⟩
      rw [wipe_eq l2 o2]
      exact wipe_eq (L2.wipe_length _ _) fun j hj => wipe_get hj
    · rw [hlen, kept_all] at L
      exact q _ H' (s1.trans L.same) (L.pn s1)
theorem jt_yes : Jt K tYes env true := fun M B σ H Q w e q => q H (Same.refl H)
theorem filter_true (xs : List α) : xs.filter (fun _ => true) = xs := List.filter_eq_self.mpr fun _ _ => rfl
theorem jn_mapL {tl : TE} {g : TG} {vs : List Nat} {n0 : Bool} {enc : α → D} (xs : List α) (f : α → D) (hl : JS K tl env n0 (xs.map enc)) (hz : xs.length ≤ 100000)
    (hx : ∀ x, x ∈ xs → ∃ env2, TgOk K g (enc x) n0 (wipeE env vs) env2 vs ∧ JD K te env2 n (f x)) :
    JN K (tLc (iList K tl) g tYes te vs) env n (xs.map f) := by
  have h := jn_lcL (te := te) (tt := tYes) (n := n) xs (fun _ => true) f hl hz fun x hm => let ⟨env2, h1, h2⟩ := hx x hm; ⟨env2, h1, jt_yes, fun _ => h2⟩
  rw [filter_true] at h
  exact h
/-- over a tuple -/
theorem jn_lcU {tl : TE} {g : TG} {vs : List Nat} {n0 : Bool} {enc : α → D} (xs : List α) (keep : α → Bool) (f : α → D) (hl : JU K tl env n0 (xs.map enc)) (hz : xs.length ≤ 100000)
    (hx : ∀ x, x ∈ xs → ∃ env2, TgOk K g (enc x) n0 (wipeE env vs) env2 vs ∧ Jt K tt env2 (keep x) ∧ (keep x = true → JD K te env2 n (f x))) :
    JN K (tLc (iTup K tl) g tt te vs) env n ((xs.filter keep).map f) := fun M B σ H Q w e q =>
  hl M B σ H _ w e fun x H1 s1 ⟨a, us, h1, h2, h3⟩ => by
    refine ⟨a, h1, ⟨us, SqT.of h2⟩, fun Dl hD => ?_⟩
    have hlen : us.length = xs.length := by rw [h3.length, List.length_map]
    refine lc_tup (K := K) (a := a) (xs := us) (fun k H' => LcAt K M B H1 n Dl (kept keep f xs k) H') (by unfold kept; rw [List.take_zero]; exact LcAt.start hD) (fun k H' _ L => SqT.of (L.same _ _ h2)) (fun k v H' hk L => ?_) (fun H' L => ?_)
    · have hk' : k < xs.length := by rw [← hlen]; exact (List.getElem?_eq_some_iff.mp hk).1
      obtain ⟨x, hx1⟩ : ∃ x, xs[k]? = some x := ⟨_, List.getElem?_eq_getElem hk'⟩
      obtain ⟨env2, tg, ht, he⟩ := hx x (List.mem_of_getElem? hx1)
      obtain ⟨d, hd, rd⟩ := h3.getV hk
      have ed : d = enc x := by
        rw [List.getElem?_map, hx1] at hd
        exact (Option.some.inj hd).symm
      rw [ed] at rd
      have e' : EnvOk K (fun a => M a ∨ a = Dl) (fun a => B a ∨ a = Dl) H' (L2.wipe σ vs) (wipeE env vs) := ((e.ext s1).add L.same hD).wipe vs
      have rd' : Rp K (Sn n0 (fun a => M a ∨ a = Dl) (fun a => B a ∨ a = Dl)) H' v (enc x) := by
        rw [sn_add]
        exact (Keep.same L.same fun a m => m.imp_right fun z => by rw [z]; exact hD).rp rd
      refine tg.run _ _ (L2.wipe σ vs) H' v _ e' rd' fun σ2 e2 o2 l2 => ⟨?_, lc_turn hx1 hz (w.ext s1) L e2 ht he fun H2 L2 => L2⟩
      rw [wipe_eq l2 o2]
      exact wipe_eq (L2.wipe_length _ _) fun j hj => wipe_get hj
    · rw [hlen, kept_all] at L
      exact q _ H' (s1.trans L.same) (L.pn s1)
/-- over range(k) -/
def natD (k : Nat) : D := .int (k : Int)
theorem jn_lcR {tn : TE} {g : TG} {vs : List Nat} {k : Int} (keep : Nat → Bool) (f : Nat → D) (hl : JV K tn env (.int k)) (hz : k ≤ 100000)
    (h0 : -100000 ≤ k) (hx : ∀ x, x < k.toNat → ∃ env2, TgOk K g (natD x) true (wipeE env vs) env2 vs ∧ Jt K tt env2 (keep x) ∧ (keep x = true → JD K te env2 n (f x))) :
    JN K (tLc (iRng1 (tCons tn tNil)) g tt te vs) env n (((List.range k.toNat).filter keep).map f) := fun M B σ H Q w e q =>
  hl M B σ H _ w e fun x H1 s1 p1 => by
    have e1 : x = V.int k := p1
    rw [e1]
    refine ⟨k, rfl, by omega, by omega, fun Dl hD => ?_⟩
    refine lc_range (lo := 0) (n := k.toNat) (fun j H' => LcAt K M B H1 n Dl (kept keep f (List.range k.toNat) j) H') (by unfold kept; rw [List.take_zero]; exact LcAt.start hD) (fun j H' hj L => ?_) (fun H' L => ?_)
    · obtain ⟨env2, tg, ht, he⟩ := hx j hj
      have e' : EnvOk K (fun a => M a ∨ a = Dl) (fun a => B a ∨ a = Dl) H' (L2.wipe σ vs) (wipeE env vs) := ((e.ext s1).add L.same hD).wipe vs
      have z : (0 : Int) + (j : Int) = (j : Int) := Int.zero_add _
      rw [z]
      refine tg.run _ _ (L2.wipe σ vs) H' (.int (j : Int)) _ e' (.int _) fun σ2 e2 o2 l2 => ⟨?_, lc_turn (xs := List.range k.toNat) (k := j) (List.getElem?_range hj) (by rw [List.length_range]; omega) (w.ext s1) L e2 ht he fun H2 L2 => L2⟩
      rw [wipe_eq l2 o2]
      exact wipe_eq (L2.wipe_length _ _) fun j hj => wipe_get hj
    · have e3 : kept keep f (List.range k.toNat) k.toNat = ((List.range k.toNat).filter keep).map f := by
        have := kept_all (keep := keep) (f := f) (xs := List.range k.toNat)
        rw [List.length_range] at this
        exact this
      rw [e3] at L
      exact q _ H' (s1.trans L.same) (L.pn s1)
theorem jn_mapR {tn : TE} {g : TG} {vs : List Nat} {k : Int} (f : Nat → D) (hl : JV K tn env (.int k)) (hz : k ≤ 100000)
    (h0 : -100000 ≤ k) (hx : ∀ x, x < k.toNat → ∃ env2, TgOk K g (natD x) true (wipeE env vs) env2 vs ∧ JD K te env2 n (f x)) :
    JN K (tLc (iRng1 (tCons tn tNil)) g tYes te vs) env n ((List.range k.toNat).map f) := by
  have h := jn_lcR (te := te) (tt := tYes) (n := n) (fun _ => true) f hl hz h0 fun x hm => let ⟨env2, h1, h2⟩ := hx x hm; ⟨env2, h1, jt_yes, fun _ => h2⟩
  rw [filter_true] at h
  exact h
/-- list(range(k)) -/
theorem jn_range {tn : TE} {k : Int} (h : JV K tn env (.int k)) (hz : k ≤ 100000) (h0 : 0 ≤ k) : JN K (tLstRg (tRg1 tn)) env n ((List.range k.toNat).map natD) := fun M B σ H Q w e q =>
  h M B σ H _ w e fun x H1 s1 p1 => ⟨k, p1, RgOk.of_le (by omega) (by omega) (by omega) (by omega), fun p hp => q _ _ (s1.trans (same_upd hp)) (by
    refine jn_new w s1 hp ?_
    have e1 : rgV 0 k = ((List.range k.toNat).map fun j : Nat => (j : Int)).map V.int := by
      unfold rgV
      rw [List.map_map, Int.sub_zero]
      refine List.map_congr_left fun j _ => ?_
      show V.int (0 + (j : Int)) = V.int (j : Int)
      rw [Int.zero_add]
    have e2 : (List.range k.toNat).map natD = ((List.range k.toNat).map fun j : Nat => (j : Int)).map PyData.int := by
      rw [List.map_map]
      rfl
    rw [e1, e2]
    exact RpA.ints _)⟩
end
end DL

namespace DL
open PySem L2
/-! ### what a def promises -/
inductive XC where
  | net | tie | self | hang | numb | many
  deriving DecidableEq
inductive Out where
  | val (d : D)
  | new (ds : List D)
  | err (c : XC)
inductive RpF (K : PySem.W.Frag) (M B : As) (H : Hp) : List Bool → List V → List D → Prop
  | nil : RpF K M B H [] [] []
  | cons {b : Bool} {fl : List Bool} {v : V} {vs : List V} {d : D} {ds : List D} (h1 : Rp K (Sn b M B) H v d) (h2 : RpF K M B H fl vs ds) : RpF K M B H (b :: fl) (v :: vs) (d :: ds)
theorem RpF.len {K : PySem.W.Frag} {M B : As} {H : Hp} : ∀ {fl : List Bool} {vs : List V} {ds : List D}, RpF K M B H fl vs ds → vs.length = fl.length
  | _, _, _, .nil => rfl
  | _, _, _, .cons _ h => congrArg (· + 1) h.len
theorem RpF.lenD {K : PySem.W.Frag} {M B : As} {H : Hp} : ∀ {fl : List Bool} {vs : List V} {ds : List D}, RpF K M B H fl vs ds → ds.length = fl.length
  | _, _, _, .nil => rfl
  | _, _, _, .cons _ h => congrArg (· + 1) h.lenD
theorem RpF.ext {K : PySem.W.Frag} {M B : As} {H H' : Hp} (s : Same H H') : ∀ {fl : List Bool} {vs : List V} {ds : List D}, RpF K M B H fl vs ds → RpF K M B H' fl vs ds
  | _, _, _, .nil => .nil
  | _, _, _, .cons h1 h2 => .cons ((Keep.ext s).rp h1) (h2.ext s)
def OutOk (K : PySem.W.Frag) (cl : XC → Addr) (M B : As) (r : Bool) (H : Hp) (Q : VK) (E : XK) : Out → Prop
  | .val d => ∀ v H', Same H H' → Rp K (Sn r M B) H' v d → Q v H'
  | .new ds => ∀ p vs H', Same H H' → H p = none → H' p = some (.lst vs) → RpA K (fun b => Sn r M B b ∨ b = p) H' vs ds → Q (.ref p) H'
  | .err c => ∀ H', Same H H' → E (.ref (cl c)) none H'
/-- fl: which arguments keep off B (the others off M), r: whether what is handed back keeps off B -/
def spD (K : PySem.W.Frag) (cl : XC → Addr) (fl : List Bool) (r : Bool) (Pre : List D → Prop) (Post : List D → Out → Prop) : Sp := fun vs H Q E =>
  ∃ (M B : As) (ds : List D), Wf M B H ∧ RpF K M B H fl vs ds ∧ Pre ds ∧ ∀ out, Post ds out → OutOk K cl M B r H Q E out
/-! ### a def's state -/
structure Ct where
  K : PySem.W.Frag
  M : As
  B : As
  H0 : Hp
  Hb : Hp
abbrev Ct.re (C : Ct) (h : Hp) : Ct := { C with Hb := h }
def Dist (σ : St) (env : List Sl) : Prop := ∀ (i j : Nat) (p : Addr) n m ds es, env[i]? = some (.own n ds) → env[j]? = some (.own m es) → σ[i]? = some (some (.ref p)) → σ[j]? = some (some (.ref p)) → i = j
structure GoodL (C : Ct) (L : As) (env : List Sl) (σ : St) (H : Hp) : Prop where
  b0 : Same C.H0 C.Hb
  b1 : Same C.Hb H
  wf : Wf C.M C.B C.H0
  lf : ∀ a, L a → C.Hb a = none ∧ ∃ xs, H a = some (.lst xs)
  ok : EnvOk C.K (fun a => C.M a ∨ L a) (fun a => C.B a ∨ L a) H σ env
  di : Dist σ env
  ol : ∀ (i : Nat) n ds (p : Addr), env[i]? = some (.own n ds) → σ[i]? = some (some (.ref p)) → L p
section
variable {C : Ct} {L : As} {env env' : List Sl} {σ : St} {H H' : Hp} {n m r : Bool} {d e : D} {ds es : List D} {i j : Nat} {te ta tb : TE} {tt : TT} {P : Po} {v : V} {D : Ends} {u t t1 t2 : TS} {α : Type}
theorem sn_or (n : Bool) (M B L : As) (a : Addr) : Sn n (fun a => M a ∨ L a) (fun a => B a ∨ L a) a ↔ Sn n M B a ∨ L a := by cases n <;> exact Iff.rfl
theorem GoodL.w (g : GoodL C L env σ H) : Wf (fun a => C.M a ∨ L a) (fun a => C.B a ∨ L a) H := by
  have w := (g.wf.ext g.b0).ext g.b1
  refine ⟨fun a h => h.imp_left (w.sub a), fun a h => h.elim (w.trk a) fun z => ?_⟩
  obtain ⟨_, xs, e⟩ := g.lf a z
  rw [e]; exact fun z => nomatch z
theorem GoodL.ext (g : GoodL C L env σ H) (s : Same H H') : GoodL C L env σ H' :=
  ⟨g.b0, g.b1.trans s, g.wf, fun a h => let ⟨x, xs, y⟩ := g.lf a h; ⟨x, xs, s _ _ y⟩, g.ok.ext s, g.di, g.ol⟩
theorem GoodL.noL (g : GoodL C L env σ H) {a : Addr} (h : L a) (n : Bool) : ¬ Sn n C.M C.B a := fun z => by
  have h1 := g.wf.snT n a z
  have h2 := (g.lf a h).1
  exact h1 (g.b0.free h2)
theorem own_ne {env : List Sl} {i j : Nat} {n m : Bool} {d : DL.D} {ds : List DL.D} (h : (env.set i (.val m d))[j]? = some (.own n ds)) : j ≠ i ∧ env[j]? = some (.own n ds) := by
  by_cases z : i = j
  · subst z
    by_cases hi : i < env.length
    · rw [List.getElem?_set_self hi] at h
      cases h
    · rw [List.getElem?_eq_none (by rw [List.length_set]; omega)] at h
      cases h
  · rw [List.getElem?_set_ne z] at h
    exact ⟨fun y => z y.symm, h⟩
theorem GoodL.setVal (g : GoodL C L env σ H) (r : Rp C.K (Sn n (fun a => C.M a ∨ L a) (fun a => C.B a ∨ L a)) H v d) : GoodL C L (env.set i (.val n d)) (σ.set i (some v)) H :=
  ⟨g.b0, g.b1, g.wf, g.lf, g.ok.set ⟨v, rfl, r⟩, fun j k p n m ds es h1 h2 h3 h4 => by
    obtain ⟨n1, e1⟩ := own_ne h1
    obtain ⟨n2, e2⟩ := own_ne h2
    rw [List.getElem?_set_ne (fun z => n1 z.symm)] at h3
    rw [List.getElem?_set_ne (fun z => n2 z.symm)] at h4
    exact g.di j k p n m ds es e1 e2 h3 h4, fun j n ds p h1 h3 => by
    obtain ⟨n1, e1⟩ := own_ne h1
    rw [List.getElem?_set_ne (fun z => n1 z.symm)] at h3
    exact g.ol j n ds p e1 h3⟩
theorem GoodL.setOwn (g : GoodL C L env σ H) (s : Same H H') {p : Addr} {vs : List V} (hp : H p = none) (hv : H' p = some (.lst vs)) (r : RpA C.K (fun b => Sn n (fun a => C.M a ∨ L a) (fun a => C.B a ∨ L a) b ∨ b = p) H' vs ds) :
    GoodL C (fun a => L a ∨ a = p) (env.set i (.own n ds)) (σ.set i (some (.ref p))) H' := by
  have eM : (fun a => (C.M a ∨ L a) ∨ a = p) = fun a => C.M a ∨ (L a ∨ a = p) := funext fun a => propext or_assoc
  have eB : (fun a => (C.B a ∨ L a) ∨ a = p) = fun a => C.B a ∨ (L a ∨ a = p) := funext fun a => propext or_assoc
  have ok := g.ok.add s hp
  rw [eM, eB] at ok
  refine ⟨g.b0, g.b1.trans s, g.wf, fun a h => ?_, ok.set ⟨p, vs, rfl, .inr (.inr rfl), hv, ?_⟩, fun j k q n m ds es h1 h2 h3 h4 => ?_, fun j n1 ds1 q h1 h3 => ?_⟩
  · rcases h with h | h
    · obtain ⟨x, xs, y⟩ := g.lf a h
      exact ⟨x, xs, s _ _ y⟩
    · rw [h]
      exact ⟨g.b1.free hp, vs, hv⟩
  · refine (Keep.less fun a h => ?_).rpA r
    rw [sn_or] at h ⊢
    rcases h with h | h | h
    · exact .inl (.inl h)
    · exact .inl (.inr h)
    · exact .inr h
  · have old : ∀ {k : Nat} {m : Bool} {es : List DL.D} {q : Addr}, k ≠ i → env[k]? = some (.own m es) → σ[k]? = some (some (.ref q)) → q ≠ p := fun {k m es q} hk he hs z => by
      obtain ⟨p', vs', e1, _, e3, _⟩ := g.ok.sl k _ he
      rw [hs] at e1
      cases e1
      rw [z, hp] at e3
      cases e3
    have split : ∀ {k : Nat} {m : Bool} {es : List DL.D}, (env.set i (.own n ds))[k]? = some (.own m es) → k = i ∨ (k ≠ i ∧ env[k]? = some (.own m es)) := fun {k m es} h => by
      by_cases z : i = k
      · exact .inl z.symm
      · rw [List.getElem?_set_ne z] at h
        exact .inr ⟨fun y => z y.symm, h⟩
    have at_i : ∀ {q : Addr}, (σ.set i (some (.ref p)))[i]? = some (some (.ref q)) → q = p := fun {q} h => by
      by_cases hi : i < σ.length
      · rw [List.getElem?_set_self hi] at h
        cases h; rfl
      · rw [List.getElem?_eq_none (by rw [List.length_set]; omega)] at h
        cases h
    by_cases zj : j = i
    · by_cases zk : k = i
      · rw [zj, zk]
      · subst zj
        have e2 : env[k]? = some (.own m es) := by rw [List.getElem?_set_ne (fun z => zk z.symm)] at h2; exact h2
        rw [List.getElem?_set_ne (fun z => zk z.symm)] at h4
        exact absurd (at_i h3) (old zk e2 h4)
    · have e1 : env[j]? = some (.own n ds) := by rw [List.getElem?_set_ne (fun z => zj z.symm)] at h1; exact h1
      rw [List.getElem?_set_ne (fun z => zj z.symm)] at h3
      by_cases zk : k = i
      · subst zk
        exact absurd (at_i h4) (old zj e1 h3)
      · have e2 : env[k]? = some (.own m es) := by rw [List.getElem?_set_ne (fun z => zk z.symm)] at h2; exact h2
        rw [List.getElem?_set_ne (fun z => zk z.symm)] at h4
        exact g.di j k q _ _ _ _ e1 e2 h3 h4
  · by_cases zj : j = i
    · subst zj
      refine .inr ?_
      by_cases hi : j < σ.length
      · rw [List.getElem?_set_self hi] at h3
        cases h3; rfl
      · rw [List.getElem?_eq_none (by rw [List.length_set]; omega)] at h3
        cases h3
    · rw [List.getElem?_set_ne (fun z => zj z.symm)] at h1 h3
      exact .inl (g.ol j n1 ds1 q h1 h3)
/-- an owned list is changed -/
theorem GoodL.mutate (g : GoodL C L env σ H) (hi : env[i]? = some (.own n ds)) {p : Addr} (hs : σ[i]? = some (some (.ref p))) {vs : List V} (r : RpA C.K (Sn n (fun a => C.M a ∨ L a) (fun a => C.B a ∨ L a)) H vs es) :
    GoodL C L (env.set i (.own n es)) σ (upd H p (.lst vs)) := by
  obtain ⟨p', us, e1, mp, e3, _⟩ := g.ok.sl i _ hi
  rw [hs] at e1
  cases e1
  have lp := g.ol i n ds p hi hs
  have km : ∀ k : Bool, Keep (Sn k (fun a => C.M a ∨ L a) (fun a => C.B a ∨ L a)) (Sn k (fun a => C.M a ∨ L a) (fun a => C.B a ∨ L a)) H (upd H p (.lst vs)) := fun k => .mut ((sn_or k _ _ _ _).mpr (.inr lp)) e3
  have il : i < env.length := (List.getElem?_eq_some_iff.mp hi).1
  have back : ∀ {k : Nat} {m : Bool} {fs : List DL.D}, (env.set i (.own n es))[k]? = some (.own m fs) → ∃ m' fs', env[k]? = some (.own m' fs') := fun {k m fs} h => by
    by_cases z : i = k
    · rw [← z]; exact ⟨n, ds, hi⟩
    · rw [List.getElem?_set_ne z] at h
      exact ⟨m, fs, h⟩
  refine ⟨g.b0, fun a o q => ?_, g.wf, fun a h => ?_, ⟨by rw [List.length_set]; exact g.ok.len, fun k s hk => ?_⟩, fun j k q n1 m1 ds1 es1 h1 h2 h3 h4 => ?_, fun j n1 ds1 q h1 h3 => ?_⟩
  · rw [upd_ne (fun z => by rw [z, (g.lf p lp).1] at q; cases q)]
    exact g.b1 a o q
  · obtain ⟨x, xs, y⟩ := g.lf a h
    refine ⟨x, ?_⟩
    by_cases z : a = p
    · rw [z]; exact ⟨vs, upd_same⟩
    · exact ⟨xs, by rw [upd_ne z]; exact y⟩
  · by_cases z : i = k
    · subst z
      rw [List.getElem?_set_self il] at hk
      cases hk
      exact ⟨p, vs, hs, mp, upd_same, (km n).rpA r⟩
    · rw [List.getElem?_set_ne z] at hk
      have q := g.ok.sl k s hk
      cases s with
      | un => trivial
      | val m d =>
        obtain ⟨v, v1, v2⟩ := q
        exact ⟨v, v1, (km m).rp v2⟩
      | own m fs =>
        obtain ⟨p', us', v1, v2, v3, v4⟩ := q
        refine ⟨p', us', v1, v2, ?_, (km m).rpA v4⟩
        rw [upd_ne (fun y => z (g.di i k p n m ds fs hi hk hs (by rw [v1, y])))]
        exact v3
  · obtain ⟨_, _, e1⟩ := back h1
    obtain ⟨_, _, e2⟩ := back h2
    exact g.di j k q _ _ _ _ e1 e2 h3 h4
  · obtain ⟨_, _, e1⟩ := back h1
    exact g.ol j _ _ q e1 h3
/-- an owned list is let go: it stays as it is -/
theorem GoodL.freeze (g : GoodL C L env σ H) (hi : env[i]? = some (.own n ds)) : ∃ L', GoodL C L' (env.set i (.val n (.list ds))) σ H := by
  obtain ⟨p, us, hs, mp, e3, r⟩ := g.ok.sl i _ hi
  have lp := g.ol i n ds p hi hs
  have il : i < env.length := (List.getElem?_eq_some_iff.mp hi).1
  refine ⟨fun a => L a ∧ a ≠ p, g.b0, g.b1, g.wf, fun a h => g.lf a h.1, ⟨by rw [List.length_set]; exact g.ok.len, fun k s hk => ?_⟩, fun j k q n1 m1 ds1 es1 h1 h2 h3 h4 => ?_, fun j n1 ds1 q h1 h3 => ?_⟩
  · have less : ∀ m : Bool, Keep (Sn m (fun a => C.M a ∨ L a) (fun a => C.B a ∨ L a)) (Sn m (fun a => C.M a ∨ (L a ∧ a ≠ p)) (fun a => C.B a ∨ (L a ∧ a ≠ p))) H H := fun m => .less fun a h => by
      rw [sn_or] at h ⊢
      exact h.imp_right fun z => z.1
    by_cases z : i = k
    · subst z
      rw [List.getElem?_set_self il] at hk
      cases hk
      refine ⟨.ref p, hs, .lst (fun h => ?_) e3 ((less n).rpA r)⟩
      rw [sn_or] at h
      rcases h with h | h
      · exact g.noL lp n h
      · exact h.2 rfl
    · rw [List.getElem?_set_ne z] at hk
      have q := g.ok.sl k s hk
      cases s with
      | un => trivial
      | val m d =>
        obtain ⟨v, v1, v2⟩ := q
        exact ⟨v, v1, (less m).rp v2⟩
      | own m fs =>
        obtain ⟨p', us', v1, v2, v3, v4⟩ := q
        exact ⟨p', us', v1, .inr ⟨g.ol k m fs p' hk v1, fun y => z (g.di i k p n m ds fs hi hk hs (by rw [v1, y]))⟩, v3, (less m).rpA v4⟩
  · obtain ⟨_, e1⟩ := own_ne h1
    obtain ⟨_, e2⟩ := own_ne h2
    exact g.di j k q _ _ _ _ e1 e2 h3 h4
  · obtain ⟨n2, e1⟩ := own_ne h1
    exact ⟨g.ol j _ _ q e1 h3, fun y => n2 (g.di j i q n1 n ds1 ds e1 hi h3 (by rw [hs, y]))⟩
/-- slots may be forgotten -/
def Less (env' env : List Sl) : Prop := env'.length = env.length ∧ ∀ (i : Nat) s, env'[i]? = some s → s = .un ∨ env[i]? = some s
inductive LessI : List Sl → List Sl → Prop
  | nil : LessI [] []
  | keep {s : Sl} {a b : List Sl} : LessI a b → LessI (s :: a) (s :: b)
  | drop {s : Sl} {a b : List Sl} : LessI a b → LessI (.un :: a) (s :: b)
theorem LessI.less {a b : List Sl} (h : LessI a b) : Less a b := by
  induction h with
  | nil => exact ⟨rfl, fun i s h => by simp at h⟩
  | keep _ ih =>
    refine ⟨congrArg (· + 1) ih.1, fun i s h => ?_⟩
    cases i with
    | zero => exact .inr h
    | succ i => exact ih.2 i s h
  | drop _ ih =>
    refine ⟨congrArg (· + 1) ih.1, fun i s h => ?_⟩
    cases i with
    | zero => exact .inl (Option.some.inj h).symm
    | succ i => exact ih.2 i s h
theorem GoodL.weak (g : GoodL C L env σ H) (h : Less env' env) : GoodL C L env' σ H := by
  refine ⟨g.b0, g.b1, g.wf, g.lf, ⟨by rw [h.1]; exact g.ok.len, fun k s hk => ?_⟩, fun j k q n1 m1 ds1 es1 h1 h2 h3 h4 => ?_, fun j n1 ds1 q h1 h3 => ?_⟩
  · rcases h.2 k s hk with e | e
    · rw [e]; trivial
    · exact g.ok.sl k s e
  · exact g.di j k q _ _ _ _ ((h.2 j _ h1).resolve_left fun z => nomatch z) ((h.2 k _ h2).resolve_left fun z => nomatch z) h3 h4
  · exact g.ol j _ _ q ((h.2 j _ h1).resolve_left fun z => nomatch z) h3
theorem GoodL.rebase (g : GoodL C L env σ H) : GoodL (C.re (hideL L H)) L env σ H ∧ Same C.Hb (hideL L H) := by
  have s : Same C.Hb (hideL L H) := fun a o q => by
    rw [hideL_out (fun z => by rw [(g.lf a z).1] at q; cases q)]
    exact g.b1 a o q
  exact ⟨⟨g.b0.trans s, hideL_same, g.wf, fun a h => ⟨hideL_in h, (g.lf a h).2⟩, g.ok, g.di, g.ol⟩, s⟩
theorem GoodL.up {hb : Hp} (g : GoodL (C.re hb) L env σ H) (b : Same C.H0 C.Hb) (s : Same C.Hb hb) : GoodL C L env σ H :=
  ⟨b, s.trans g.b1, g.wf, fun a h => ⟨s.free (g.lf a h).1, (g.lf a h).2⟩, g.ok, g.di, g.ol⟩
/-! ### statements -/
def Run (C : Ct) (D : Ends) (t : TS) (env : List Sl) : Prop := ∀ L σ H, GoodL C L env σ H → t D σ H
theorem GoodL.eval (g : GoodL C L env σ H) (h : Jd C.K te env P) {Q : VK} (q : ∀ v H', Same H H' → GoodL C L env σ H' → P (fun a => C.M a ∨ L a) (fun a => C.B a ∨ L a) H v H' → Q v H') : te σ H Q :=
  h _ _ σ H Q g.w g.ok fun v H' s p => q v H' s (g.ext s) p
theorem run_one (h : Run C D (tSeq t tNext) env) : Run C D t env := h
theorem run_seq (h : Run C { D with nx := u D } t env) : Run C D (tSeq t u) env := h
theorem run_assoc (h : Run C D (tSeq t1 (tSeq t2 u)) env) : Run C D (tSeq (tSeq t1 t2) u) env := h
theorem run_cut (h : Run C D (tSeq t u) env) : Run C { D with nx := u D } t env := h
theorem run_set (h : JD C.K te env n d) (k : Run C D u (env.set i (.val n d))) : Run C D (tSeq (tAsg te (gName i)) u) env := fun L σ H g =>
  g.eval h fun v H' s g' r => k L _ _ (g'.setVal r)
theorem run_setV (h : JV C.K te env v) (e : flatD d = some v) (k : Run C D u (env.set i (.val true d))) : Run C D (tSeq (tAsg te (gName i)) u) env := run_set (h.ofV e) k
theorem run_setI {z : Int} (h : JV C.K te env (.int z)) (k : Run C D u (env.set i (.val true (.int z)))) : Run C D (tSeq (tAsg te (gName i)) u) env := run_setV h rfl k
theorem run_setB {z : Bool} (h : JV C.K te env (.bl z)) (k : Run C D u (env.set i (.val true (.bool z)))) : Run C D (tSeq (tAsg te (gName i)) u) env := run_setV h rfl k
theorem run_setN (h : JN C.K te env n ds) (k : Run C D u (env.set i (.own n ds))) : Run C D (tSeq (tAsg te (gName i)) u) env := fun L σ H g =>
  g.eval h fun v H' s g' ⟨p, vs, e1, e2, e3, e4⟩ => by
    rw [e1]
    exact k _ _ _ (g.setOwn s e2 e3 e4)
theorem run_setP {p : DL.D → Prop} (h : Jd C.K te env (pP C.K n p)) (k : ∀ d, p d → Run C D u (env.set i (.val n d))) : Run C D (tSeq (tAsg te (gName i)) u) env := fun L σ H g =>
  g.eval h fun v H' s g' ⟨d, hd, r⟩ => k d hd L _ _ (g'.setVal r)
theorem run_tg {g : TG} {js : List Nat} (h : JD C.K te env n d) (tg : TgOk C.K g d n env env' js) (k : Run C D u env') : Run C D (tSeq (tAsg te g) u) env := fun L σ H gd =>
  gd.eval h fun v H' s g' r => tg.run _ _ σ H' v _ g'.ok r fun σ' ok' o' l' => k L σ' H' ⟨g'.b0, g'.b1, g'.wf, g'.lf, ok', fun i j p n m ds es h1 h2 h3 h4 => by
    obtain ⟨a1, a2⟩ := tg.own i n ds h1
    obtain ⟨b1, b2⟩ := tg.own j m es h2
    rw [o' i a2] at h3
    rw [o' j b2] at h4
    exact g'.di i j p _ _ _ _ a1 b1 h3 h4, fun i n ds p h1 h3 => by
    obtain ⟨a1, a2⟩ := tg.own i n ds h1
    rw [o' i a2] at h3
    exact g'.ol i _ _ p a1 h3⟩
theorem run_tgP {g : TG} {p : DL.D → Prop} (h : Jd C.K te env (pP C.K n p)) (k : ∀ d, p d → ∃ env' js, TgOk C.K g d n env env' js ∧ Run C D u env') : Run C D (tSeq (tAsg te g) u) env := fun L σ H gd =>
  gd.eval h fun v H' s g' ⟨d, hd, r⟩ => by
    obtain ⟨env', js, tg, kk⟩ := k d hd
    exact tg.run _ _ σ H' v _ g'.ok r fun σ' ok' o' l' => kk L σ' H' ⟨g'.b0, g'.b1, g'.wf, g'.lf, ok', fun i j p n m ds es h1 h2 h3 h4 => by
      obtain ⟨a1, a2⟩ := tg.own i n ds h1
      obtain ⟨b1, b2⟩ := tg.own j m es h2
      rw [o' i a2] at h3
      rw [o' j b2] at h4
      exact g'.di i j p _ _ _ _ a1 b1 h3 h4, fun i n ds p h1 h3 => by
      obtain ⟨a1, a2⟩ := tg.own i n ds h1
      rw [o' i a2] at h3
      exact g'.ol i _ _ p a1 h3⟩
theorem run_drop (h : Jd C.K te env P) (k : Run C D u env) : Run C D (tSeq (tDrop te) u) env := fun L σ H g => g.eval h fun v H' s g' _ => k L σ H' g'
theorem run_if {b : Bool} (h : Jt C.K tt env b) (k1 : b = true → Run C D (tSeq t1 u) env) (k2 : b = false → Run C D (tSeq t2 u) env) : Run C D (tSeq (tIfS tt t1 t2) u) env := fun L σ H g =>
  h _ _ σ H _ g.w g.ok fun H' s => by
    cases b with
    | true => exact iteT (k1 rfl L σ H' (g.ext s))
    | false => exact iteF (k2 rfl L σ H' (g.ext s))
theorem run_next (h : Run C D u env) : Run C D (tSeq tNext u) env := h
theorem run_freeze (hi : env[i]? = some (.own n ds)) (k : Run C D u (env.set i (.val n (.list ds)))) : Run C D u env := fun L σ H g => let ⟨L', g'⟩ := g.freeze hi; k L' σ H g'
theorem run_weak (h : Less env' env) (k : Run C D u env') : Run C D u env := fun L σ H g => k L σ H (g.weak h)
theorem run_append (hi : env[i]? = some (.own n ds)) (h : JD C.K te env n d) (hz : ds.length < 100000) (k : Run C D u (env.set i (.own n (ds ++ [d])))) : Run C D (tSeq (tDrop (tBM C.K "list" rAppend (tVar i) (tCons te tNil))) u) env := fun L σ H g => by
  obtain ⟨p, us, hs, mp, e3, r⟩ := g.ok.sl i _ hi
  refine ⟨.ref p, hs, .inl ⟨rfl, us, SqL.of e3⟩, g.eval h fun v H' s g' rv => ?_⟩
  exact ⟨p, us, v, rfl, rfl, s _ _ e3, szl' (by rw [r.length]; exact hz), k L σ _ (g'.mutate hi hs (((Keep.ext s).rpA r).append (.cons rv .nil)))⟩
theorem run_extend (hi : env[i]? = some (.own n ds)) (h : JS C.K te env n es) (hz : ds.length + es.length ≤ 100000) (k : Run C D u (env.set i (.own n (ds ++ es)))) : Run C D (tSeq (tDrop (tBM C.K "list" rExtend (tVar i) (tCons te tNil))) u) env := fun L σ H g => by
  obtain ⟨p, us, hs, mp, e3, r⟩ := g.ok.sl i _ hi
  refine ⟨.ref p, hs, .inl ⟨rfl, us, SqL.of e3⟩, g.eval h fun v H' s g' ⟨b, ws, e1, e2, rw'⟩ => ?_⟩
  rw [e1]
  exact ⟨p, b, us, ws, rfl, rfl, s _ _ e3, e2, szl (by rw [r.length, rw'.length]; exact hz), k L σ _ (g'.mutate hi hs (((Keep.ext s).rpA r).append rw'))⟩
theorem run_put {tk : TE} {z : Int} (hi : env[i]? = some (.own n ds)) (h : JD C.K te env n d) (hk : JV C.K tk env (.int z)) {j : Nat} (hz : z = (j : Int)) (hj : j < ds.length) (k : Run C D u (env.set i (.own n (ds.set j d)))) :
    Run C D (tSeq (tAsg te (gSub (tVar i) tk rSetL)) u) env := fun L σ H g => by
  obtain ⟨p, us, hs, mp, e3, r⟩ := g.ok.sl i _ hi
  refine g.eval h fun v H1 s1 g1 rv => ⟨.ref p, hs, ?_⟩
  refine g1.eval hk fun w H2 s2 g2 ew => ?_
  have ew' : w = V.int z := ew
  rw [ew', hz]
  refine ⟨p, us, (j : Int), j, rfl, rfl, s2 _ _ (s1 _ _ e3), ?_, k L σ _ (g2.mutate hi hs (RpA.set ((Keep.ext s2).rp rv) j ((Keep.ext (s1.trans s2)).rpA r)))⟩
  unfold ixN
  have hl : j < us.length := by rw [r.length]; exact hj
  rw [if_pos (by omega), if_pos (by omega)]
  simp
/-! ### ends -/
def RetV (C : Ct) (D : Ends) (n : Bool) (d : DL.D) : Prop := ∀ v H', Same C.H0 H' → Rp C.K (Sn n C.M C.B) H' v d → D.rt v H'
def RetN (C : Ct) (D : Ends) (n : Bool) (ds : List DL.D) : Prop := ∀ p vs H', Same C.H0 H' → C.H0 p = none → H' p = some (.lst vs) → RpA C.K (fun b => Sn n C.M C.B b ∨ b = p) H' vs ds → D.rt (.ref p) H'
theorem RetN.of (h : RetV C D n (.list ds)) (w : Wf C.M C.B C.H0) : RetN C D n ds := fun p vs H' s hp hv r => h _ _ s (.lst (fun z => w.snT n p z hp) hv ((Keep.less fun _ => .inl).rpA r))
theorem Keep.lessL (n : Bool) {M B L : As} {H : Hp} : Keep (Sn n (fun a => M a ∨ L a) (fun a => B a ∨ L a)) (Sn n M B) H H := .less fun a h => (sn_or n M B L a).mpr (.inl h)
theorem run_ret (h : JD C.K te env n d) (q : RetV C D n d) : Run C D (tRet te) env := fun L σ H g =>
  g.eval h fun v H' s g' r => q v H' (g'.b0.trans g'.b1) ((Keep.lessL n).rp r)
theorem run_retV (h : JV C.K te env v) (e : flatD d = some v) (q : RetV C D n d) : Run C D (tRet te) env := run_ret (h.ofV e) q
theorem run_retN (h : JN C.K te env n ds) (q : RetN C D n ds) : Run C D (tRet te) env := fun L σ H g =>
  g.eval h fun v H' s g' ⟨p, vs, e1, e2, e3, e4⟩ => by
    rw [e1]
    exact q p vs H' (g'.b0.trans g'.b1) ((g.b0.trans g.b1).free e2) e3 ((Keep.less fun a h => h.imp_left fun z => (sn_or n _ _ _ _).mpr (.inl z)).rpA e4)
theorem run_retO (hi : env[i]? = some (.own n ds)) (q : RetN C D n ds) : Run C D (tRet (tVar i)) env := fun L σ H g => by
  obtain ⟨p, us, hs, mp, e3, r⟩ := g.ok.sl i _ hi
  have lp := g.ol i n ds p hi hs
  refine ⟨.ref p, hs, q p us H (g.b0.trans g.b1) (g.b0.free (g.lf p lp).1) e3 ((Keep.less fun a h => ?_).rpA r)⟩
  rw [sn_or]
  rcases h with h | h
  · exact .inl h
  · rw [h]; exact .inr lp
theorem run_retP {p : DL.D → Prop} (h : Jd C.K te env (pP C.K n p)) (q : ∀ d, p d → RetV C D n d) : Run C D (tRet te) env := fun L σ H g =>
  g.eval h fun v H' s g' ⟨d, hd, r⟩ => q d hd v H' (g'.b0.trans g'.b1) ((Keep.lessL n).rp r)
theorem run_retSeq (h : Run C D (tRet te) env) : Run C D (tSeq (tRet te) u) env := h
/-- the body's end without return -/
def NxNone (C : Ct) (D : Ends) : Prop := ∀ σ H', Same C.H0 H' → D.nx σ H'
theorem run_endN (q : NxNone C D) : Run C D tNext env := fun L σ H g => q σ H (g.b0.trans g.b1)
/-- an error leaves -/
theorem run_raise {W : XK} {cls : Value} (q : ∀ H', Same C.H0 H' → W cls none H') : Run C D (fun _ _ H => W cls none H) env := fun L σ H g => q H (g.b0.trans g.b1)
theorem run_raiseSeq (h : Run C D t env) (ht : ∀ D' σ H, t D σ H → t D' σ H) : Run C D (tSeq t u) env := fun L σ H g => ht _ σ H (h L σ H g)
/-! ### loops -/
def LoopNx (C : Ct) (I : Nat → List Sl → Prop) (k : Nat) : St → Hp → Prop := fun σ H => ∃ env, I k env ∧ ∃ L, GoodL C L env σ H
theorem run_loopNx {I : Nat → List Sl → Prop} {k : Nat} {r : VK} {bk ct : St → Hp → Prop} (h : I k env) : Run C { nx := LoopNx C I k, rt := r, bk := bk, ct := ct } tNext env := fun L σ H g => ⟨env, h, L, g⟩
theorem run_loopW {I : Nat → List Sl → Prop} {k : Nat} {r : VK} {bk ct : St → Hp → Prop} (h : I k env') (w : LessI env' env) : Run C { nx := LoopNx C I k, rt := r, bk := bk, ct := ct } tNext env := run_weak w.less (run_loopNx h)
theorem GoodL.tg {g : TG} {js : List Nat} (gd : GoodL C L env σ H) (tg : TgOk C.K g d n env env' js) {v : V} (r : Rp C.K (Sn n (fun a => C.M a ∨ L a) (fun a => C.B a ∨ L a)) H v d) {Q : St → Hp → Prop} (q : ∀ σ', GoodL C L env' σ' H → Q σ' H) : g v σ H Q :=
  tg.run _ _ σ H v _ gd.ok r fun σ' ok' o' l' => q σ' ⟨gd.b0, gd.b1, gd.wf, gd.lf, ok', fun i j p n m ds es h1 h2 h3 h4 => by
    obtain ⟨a1, a2⟩ := tg.own i n ds h1
    obtain ⟨b1, b2⟩ := tg.own j m es h2
    rw [o' i a2] at h3
    rw [o' j b2] at h4
    exact gd.di i j p _ _ _ _ a1 b1 h3 h4, fun i n ds p h1 h3 => by
    obtain ⟨a1, a2⟩ := tg.own i n ds h1
    rw [o' i a2] at h3
    exact gd.ol i _ _ p a1 h3⟩
theorem run_forL {g : TG} {tb : TS} {n0 : Bool} {enc : α → DL.D} (xs : List α) (I : Nat → List Sl → Prop) (hl : JD C.K te env n0 (.list (xs.map enc))) (h0 : I 0 env)
    (hs : ∀ hb k x env1, xs[k]? = some x → I k env1 → ∃ env2 js, TgOk C.K g (enc x) n0 env1 env2 js ∧ Run (C.re hb) { D with nx := LoopNx (C.re hb) I (k + 1), ct := LoopNx (C.re hb) I (k + 1), bk := u D } tb env2)
    (he : ∀ env1, I xs.length env1 → Run C D u env1) : Run C D (tSeq (tFor (iList C.K te) g tb) u) env := fun L σ H gd =>
  gd.eval hl fun v H1 s1 g1 r1 => by
    obtain ⟨a, us, e1, e2, e3, e4⟩ := Rp.list_inv r1
    have hlen : us.length = xs.length := by rw [e4.length, List.length_map]
    obtain ⟨gb, sb⟩ := g1.rebase
    have na : ¬ L a := fun z => e2 ((sn_or n0 _ _ _ _).mpr (.inr z))
    have ha : hideL L H1 a = some (.lst us) := by rw [hideL_out na]; exact e3
    refine ⟨a, e1, ⟨us, SqL.of e3⟩, ?_⟩
    refine for_list (K := C.K) (a := a) (xs := us) (fun k => LoopNx (C.re (hideL L H1)) I k) ⟨env, h0, L, gb⟩ (fun k σ' H' _ ⟨_, _, _, g'⟩ => SqL.of (g'.b1 _ _ ha)) (fun k v σ' H' hk ⟨env1, i1, L1, g'⟩ => ?_) (fun σ' H' ⟨env1, i1, L1, g'⟩ => ?_)
    · have hk' : k < xs.length := by rw [← hlen]; exact (List.getElem?_eq_some_iff.mp hk).1
      have hx := List.getElem?_eq_getElem hk'
      obtain ⟨env2, js, tg, run⟩ := hs (hideL L H1) k _ env1 hx i1
      obtain ⟨d, hd, rd⟩ := e4.getV hk
      have ed : d = enc xs[k] := by
        rw [List.getElem?_map, hx] at hd
        exact (Option.some.inj hd).symm
      rw [ed] at rd
      have k1 : Keep (Sn n0 (fun a => C.M a ∨ L a) (fun a => C.B a ∨ L a)) (Sn n0 (fun a => C.M a ∨ L a) (fun a => C.B a ∨ L a)) H1 (hideL L H1) := .hide (fun b z => (sn_or n0 _ _ _ _).mpr (.inr z)) fun b z => (g1.lf b z).2
      have k2 : Keep (Sn n0 (fun a => C.M a ∨ L a) (fun a => C.B a ∨ L a)) (Sn n0 (fun a => C.M a ∨ L1 a) (fun a => C.B a ∨ L1 a)) (hideL L H1) H' := .same g'.b1 fun b z => by
        rw [sn_or] at z ⊢
        rcases z with z | z
        · exact .inl (.inl z)
        · exact .inr (g'.lf b z).1
      refine GoodL.tg g' tg ((k1.trans k2).rp rd) fun σ2 g2 => ?_
      exact run L1 σ2 H' g2
    · rw [hlen] at i1
      exact he env1 i1 L1 σ' H' (g'.up g1.b0 sb)
theorem run_forR {tb : TS} {k : Int} (I : Nat → List Sl → Prop) (hl : JV C.K te env (.int k)) (hz : k ≤ 100000) (hn : -100000 ≤ k) (h0 : I 0 env)
    (hs : ∀ j env1, j < k.toNat → I j env1 → Run C { D with nx := LoopNx C I (j + 1), ct := LoopNx C I (j + 1), bk := u D } tb (env1.set i (.val true (natD j))))
    (he : ∀ env1, I k.toNat env1 → Run C D u env1) : Run C D (tSeq (tFor (iRng1 (tCons te tNil)) (gName i) tb) u) env := fun L σ H gd =>
  gd.eval hl fun v H1 s1 g1 r1 => by
    have e1 : v = V.int k := r1
    rw [e1]
    refine ⟨k, rfl, by omega, by omega, ?_⟩
    refine for_range (lo := 0) (n := k.toNat) (fun k => LoopNx C I k) ⟨env, h0, L, g1⟩ (fun j σ' H' hj ⟨env1, i1, L1, g'⟩ => ?_) (fun σ' H' ⟨env1, i1, L1, g'⟩ => he env1 i1 L1 σ' H' g')
    have z : (0 : Int) + (j : Int) = (j : Int) := Int.zero_add _
    rw [z]
    exact hs j env1 hj i1 L1 _ H' (g'.setVal (d := natD j) (.int _))
theorem run_forR2 {tb : TS} {a k : Int} (I : Nat → List Sl → Prop) (ha : JV C.K ta env (.int a)) (hl : JV C.K te env (.int k)) (hz : k ≤ 100000) (hn : -100000 ≤ k) (hz' : a ≤ 100000) (hn' : -100000 ≤ a) (h0 : I 0 env)
    (hs : ∀ j env1, j < (k - a).toNat → I j env1 → Run C { D with nx := LoopNx C I (j + 1), ct := LoopNx C I (j + 1), bk := u D } tb (env1.set i (.val true (.int (a + (j : Int))))))
    (he : ∀ env1, I (k - a).toNat env1 → Run C D u env1) : Run C D (tSeq (tFor (iRng2 (tCons ta (tCons te tNil))) (gName i) tb) u) env := fun L σ H gd =>
  gd.eval ha fun v0 H0 s0 g0 r0 => g0.eval hl fun v H1 s1 g1 r1 => by
    have e0 : v0 = V.int a := r0
    have e1 : v = V.int k := r1
    rw [e0, e1]
    refine ⟨a, k, rfl, ⟨by omega, by omega, by omega, by omega⟩, ?_⟩
    refine for_range (lo := a) (n := (k - a).toNat) (fun k => LoopNx C I k) ⟨env, h0, L, g1⟩ (fun j σ' H' hj ⟨env1, i1, L1, g'⟩ => ?_) (fun σ' H' ⟨env1, i1, L1, g'⟩ => he env1 i1 L1 σ' H' g')
    exact hs j env1 hj i1 L1 _ H' (g'.setVal (d := .int (a + (j : Int))) (.int _))
theorem run_while {tb : TS} (I : Nat → List Sl → Prop) (m0 : Nat) (h0 : I m0 env)
    (hs : ∀ m env1, I m env1 → ∃ b, Jt C.K tt env1 b ∧ (b = true → Run C { D with nx := fun σ H => ∃ m', m' < m ∧ LoopNx C I m' σ H, ct := fun σ H => ∃ m', m' < m ∧ LoopNx C I m' σ H, bk := u D } tb env1) ∧ (b = false → Run C D u env1)) :
    Run C D (tSeq (tWhile tt tb) u) env := fun L σ H gd => by
  refine ⟨fun m => LoopNx C I m, ⟨m0, env, h0, L, gd⟩, fun m σ' H' ⟨env1, i1, L1, g'⟩ => ?_⟩
  obtain ⟨b, ht, h1, h2⟩ := hs m env1 i1
  refine ht _ _ σ' H' _ g'.w g'.ok fun H2 s2 => ?_
  cases b with
  | true => exact iteT ⟨_, fun _ _ z => z, h1 rfl L1 σ' H2 (g'.ext s2)⟩
  | false => exact iteF (h2 rfl L1 σ' H2 (g'.ext s2))
/-! ### calls -/
def JFs (K : PySem.W.Frag) (fl : List Bool) (ta : TA) (env : List Sl) (ds : List DL.D) : Prop :=
  ∀ (M B : As) (σ : St) (H : Hp) (Q : List V → Hp → Prop), Wf M B H → EnvOk K M B H σ env → (∀ vs H', Same H H' → RpF K M B H' fl vs ds → Q vs H') → ta σ H Q
section
variable {K : PySem.W.Frag} {ta : TA} {fl : List Bool} {b : Bool} {cl : XC → Addr} {Pre : List DL.D → Prop} {Post : List DL.D → Out → Prop} {E : XK} {E' : St → XK}
theorem jf_nil : JFs K [] tNil env [] := fun M B σ H Q w e q => q [] H (Same.refl H) .nil
theorem jf_cons (h : JD K te env b d) (k : JFs K fl ta env ds) : JFs K (b :: fl) (tCons te ta) env (d :: ds) := fun M B σ H Q w e q =>
  h M B σ H _ w e fun v H1 s1 p1 => k M B σ H1 _ (w.ext s1) (e.ext s1) fun vs H2 s2 p2 => q (v :: vs) H2 (s1.trans s2) (.cons ((Keep.ext s2).rp p1) p2)
theorem jd_callP {p : DL.D → Prop} (h : JFs K fl ta env ds) (hp : Pre ds) (ho : ∀ out, Post ds out → ∃ d, p d ∧ (out = .val d ∨ ∃ es, d = .list es ∧ out = .new es)) : Jd K (tCall (spD K cl fl r Pre Post) [] E ta) env (pP K r p) := fun M B σ H Q w e q =>
  h M B σ H _ w e fun vs H1 s1 rf => ⟨M, B, ds, w.ext s1, by rw [List.append_nil]; exact rf, hp, fun out po => by
    obtain ⟨d, hd, rfl | ⟨es, rfl, rfl⟩⟩ := ho out po
    · exact fun v H' s' rv => q v H' (s1.trans s') ⟨d, hd, rv⟩
    · exact fun p vs H' s' hn hv rv => q _ H' (s1.trans s') ⟨_, hd, .lst (fun z => (w.ext s1).snT r p z hn) hv ((Keep.less fun _ => .inl).rpA rv)⟩⟩
theorem jd_call (h : JFs K fl ta env ds) (hp : Pre ds) (ho : ∀ out, Post ds out → out = .val d ∨ ∃ es, d = .list es ∧ out = .new es) : JD K (tCall (spD K cl fl r Pre Post) [] E ta) env r d :=
  (jd_callP (p := fun x => x = d) h hp fun out po => ⟨d, rfl, ho out po⟩).imp fun _ _ _ _ _ _ _ ⟨d', e, r⟩ => by
    show Rp _ _ _ _ _
    rw [← e]
    exact r
theorem jn_call (h : JFs K fl ta env ds) (hp : Pre ds) (ho : ∀ out, Post ds out → out = .new es) : JN K (tCall (spD K cl fl r Pre Post) [] E ta) env r es := fun M B σ H Q w e q =>
  h M B σ H _ w e fun vs H1 s1 rf => ⟨M, B, ds, w.ext s1, by rw [List.append_nil]; exact rf, hp, fun out po => by
    rw [ho out po]
    exact fun p vs H' s' hn hv rv => q _ H' (s1.trans s') ⟨p, vs, rfl, s1.free hn, hv, rv⟩⟩
theorem jv_call (h : JFs K fl ta env ds) (hp : Pre ds) (ho : ∀ out, Post ds out → out = .val d) (f : flatD d = some v) : JV K (tCall (spD K cl fl r Pre Post) [] E ta) env v := (jd_call h hp fun out po => .inl (ho out po)).toV f
/-- in a def that may raise -/
theorem jd_callSP {p : DL.D → Prop} (h : JFs K fl ta env ds) (hp : Pre ds) (ho : ∀ out, Post ds out → ∃ d, p d ∧ (out = .val d ∨ ∃ es, d = .list es ∧ out = .new es)) : Jd K (tCallS (spD K cl fl r Pre Post) E' ta) env (pP K r p) := fun M B σ H Q w e q =>
  h M B σ H _ w e fun vs H1 s1 rf => ⟨M, B, ds, w.ext s1, rf, hp, fun out po => by
    obtain ⟨d, hd, rfl | ⟨es, rfl, rfl⟩⟩ := ho out po
    · exact fun v H' s' rv => q v H' (s1.trans s') ⟨d, hd, rv⟩
    · exact fun p vs H' s' hn hv rv => q _ H' (s1.trans s') ⟨_, hd, .lst (fun z => (w.ext s1).snT r p z hn) hv ((Keep.less fun _ => .inl).rpA rv)⟩⟩
theorem jd_callS (h : JFs K fl ta env ds) (hp : Pre ds) (ho : ∀ out, Post ds out → out = .val d ∨ ∃ es, d = .list es ∧ out = .new es) : JD K (tCallS (spD K cl fl r Pre Post) E' ta) env r d :=
  (jd_callSP (p := fun x => x = d) h hp fun out po => ⟨d, rfl, ho out po⟩).imp fun _ _ _ _ _ _ _ ⟨d', e, r⟩ => by
    show Rp _ _ _ _ _
    rw [← e]
    exact r
theorem jn_callS (h : JFs K fl ta env ds) (hp : Pre ds) (ho : ∀ out, Post ds out → out = .new es) : JN K (tCallS (spD K cl fl r Pre Post) E' ta) env r es := fun M B σ H Q w e q =>
  h M B σ H _ w e fun vs H1 s1 rf => ⟨M, B, ds, w.ext s1, rf, hp, fun out po => by
    rw [ho out po]
    exact fun p vs H' s' hn hv rv => q _ H' (s1.trans s') ⟨p, vs, rfl, s1.free hn, hv, rv⟩⟩
theorem jv_callS (h : JFs K fl ta env ds) (hp : Pre ds) (ho : ∀ out, Post ds out → out = .val d) (f : flatD d = some v) : JV K (tCallS (spD K cl fl r Pre Post) E' ta) env v := (jd_callS h hp fun out po => .inl (ho out po)).toV f
/-- an expression that raises -/
def Er (C : Ct) (E : XK) (te : TE) (env : List Sl) (c : Value) : Prop := ∀ L σ H Q, GoodL C L env σ H → (∀ H', Same C.H0 H' → E c none H') → te σ H Q
theorem er_call {c : XC} (h : JFs C.K fl ta env ds) (hp : Pre ds) (ho : ∀ out, Post ds out → out = .err c) : Er C E (tCallS (spD C.K cl fl r Pre Post) (fun _ => E) ta) env (.ref (cl c)) := fun L σ H Q g q =>
  h _ _ σ H _ g.w g.ok fun vs H1 s1 rf => ⟨_, _, ds, g.w.ext s1, rf, hp, fun out po => by
    rw [ho out po]
    exact fun H' s' => q H' (((g.b0.trans g.b1).trans s1).trans s')⟩
theorem run_dropE {c : Value} (h : Er C E te env c) (q : ∀ H', Same C.H0 H' → E c none H') : Run C D (tSeq (tDrop te) u) env := fun L σ H g => h L σ H _ g q
theorem run_setE {c : Value} {g : TG} (h : Er C E te env c) (q : ∀ H', Same C.H0 H' → E c none H') : Run C D (tSeq (tAsg te g) u) env := fun L σ H gd => h L σ H _ gd q
theorem run_retE {c : Value} (h : Er C E te env c) (q : ∀ H', Same C.H0 H' → E c none H') : Run C D (tRet te) env := fun L σ H gd => h L σ H _ gd q
theorem run_ifE {c : Value} (h : ∀ L σ H Q, GoodL C L env σ H → (∀ H', Same C.H0 H' → E c none H') → tt σ H Q) (q : ∀ H', Same C.H0 H' → E c none H') : Run C D (tSeq (tIfS tt t1 t2) u) env := fun L σ H gd => h L σ H _ gd q
end
end
/-! ### a def keeps its promise -/
def argEnv (fl : List Bool) (ds : List D) (n : Nat) : List Sl := List.zipWith Sl.val fl ds ++ List.replicate (n - ds.length) .un
theorem argEnv_ok {K : PySem.W.Frag} {M B : As} {H : Hp} : ∀ {fl : List Bool} {vs : List V} {ds : List D}, RpF K M B H fl vs ds → EnvOk K M B H (vs.map some) (List.zipWith Sl.val fl ds)
  | _, _, _, .nil => ⟨rfl, fun i s h => by simp at h⟩
  | _, _, _, .cons h1 h2 => by
    have ih := argEnv_ok h2
    refine ⟨by simp only [List.map_cons, List.zipWith_cons_cons, List.length_cons]; rw [ih.len], fun i s h => ?_⟩
    cases i with
    | zero =>
      simp only [List.zipWith_cons_cons, List.getElem?_cons_zero, Option.some.injEq] at h
      subst h
      exact ⟨_, rfl, h1⟩
    | succ i =>
      simp only [List.zipWith_cons_cons, List.getElem?_cons_succ] at h
      exact ih.sl i s h
theorem start_ok {K : PySem.W.Frag} {M B : As} {H : Hp} {fl : List Bool} {vs : List V} {ds : List D} (N : List Str) (h : RpF K M B H fl vs ds) : EnvOk K M B H (L2.start N vs) (argEnv fl ds N.length) := by
  have a := argEnv_ok h
  have hl := h.len
  have hd := h.lenD
  have hz : (List.zipWith Sl.val fl ds).length = vs.length := by rw [← a.len, List.length_map]
  refine ⟨?_, fun i s hs => ?_⟩
  · unfold L2.start argEnv
    rw [List.length_append, List.length_append, List.length_map, List.length_replicate, List.length_replicate, hz, hl, hd]
  · unfold argEnv at hs
    by_cases hi : i < vs.length
    · rw [List.getElem?_append_left (by rw [hz]; exact hi)] at hs
      have q := a.sl i s hs
      have e : (L2.start N vs)[i]? = (vs.map some)[i]? := by
        unfold L2.start
        rw [List.getElem?_append_left (by rw [List.length_map]; exact hi)]
      rw [e]
      exact q
    · rw [List.getElem?_append_right (by rw [hz]; omega), List.getElem?_replicate] at hs
      split at hs
      · cases hs; trivial
      · cases hs
theorem argEnv_noOwn {fl : List Bool} {ds : List D} {k : Nat} : ∀ (i : Nat) n es, (argEnv fl ds k)[i]? ≠ some (.own n es) := fun i n es h => by
  unfold argEnv at h
  have m := List.mem_of_getElem? h
  rcases List.mem_append.mp m with m | m
  · obtain ⟨j, hj, e⟩ := List.getElem_of_mem m
    rw [List.getElem_zipWith] at e
    cases e
  · have := (List.mem_replicate.mp m).2
    cases this
section
variable {P : Program} {w : World} {K : PySem.W.Frag} {mg : Str → Option Value} {base : Heap}
/-- THE RULE for a def of the text -/
theorem fnD {x qual : Str} {st : Stmt} {f : Addr} {fd : FuncData} {N ps : List Str} {k : Nat} {cl : XC → Addr} {fl : List Bool} {r : Bool} {Pre : List D → Prop} {Post : List D → Out → Prop} (F : Fun K x qual st f fd) (S : FnScope N ps (defScope st)) (hl : fl.length = ps.length)
    (body : ∀ (cdv : Value) (A : Around) (outer : List Env) (s : Shared) (E : XK) (M B : As) (H : Hp) (Q : VK) (ds : List D), Room k (A.deeper (PyProof.Rows.envOfC qual (defScope st) s.heap.objs.size f cdv)) → Pre ds → Wf M B H → (∀ out, Post ds out → OutOk K cl M B r H Q E out) →
      ∃ t, PSs (cxOf (L2.CX P w) P w K mg base N qual (defScope st) f cdv A outer s H E) (defBody st) t ∧ Run ⟨K, M, B, H, H⟩ { nx := fun _ H' => Q .non H', rt := Q } t (argEnv fl ds N.length)) : FnOk P w K mg base (L2.CX P w) (k + 1) f fd ps (spD K cl fl r Pre Post) := by
  refine F.okX S (fun vs H Q E h => ?_) (fun cdv A outer s H vs Q E hr h => ?_)
  · obtain ⟨M, B, ds, _, rf, _⟩ := h
    rw [rf.len, hl]
  · obtain ⟨M, B, ds, wf, rf, hp, ho⟩ := h
    obtain ⟨t, ht, run⟩ := body cdv A outer s E M B H Q ds hr hp wf ho
    refine ⟨t, ht, run (fun _ => False) _ H ⟨Same.refl H, Same.refl H, wf, fun a z => z.elim, ?_, fun i j p n m ds es h1 => absurd h1 (argEnv_noOwn i n ds), fun i n ds p h1 => absurd h1 (argEnv_noOwn i n ds)⟩⟩
    have e1 : (fun a => M a ∨ False) = M := funext fun a => propext ⟨fun z => z.elim id fun y => y.elim, .inl⟩
    have e2 : (fun a => B a ∨ False) = B := funext fun a => propext ⟨fun z => z.elim id fun y => y.elim, .inl⟩
    show EnvOk K (fun a => M a ∨ False) (fun a => B a ∨ False) H _ _
    rw [e1, e2]
    exact start_ok N rf
theorem PS.nox {X : Cx} {st : Stmt} {t : TS} (h : PS X.nox st t) : PS X st t := ⟨fun pins s σ H D I hw =>
  PySem.wpAny_mono (h.run pins s σ H D (I.wish _) hw) (fun _ _ q => q.unwish) fun _ _ z => False.elim z⟩
end
end DL

/-! the layer's rules with the written part by its name -/
namespace DL
open PySem L2
section
variable {X : Cx} {K : PySem.W.Frag}
theorem op_eqK (K : PySem.W.Frag) (hK : X.K = K) (hu : X.A.units + 64 < cLine) : OpR X (compareOp .Eq) (rEqD K) := by subst hK; exact op_eqD hu
theorem op_neK (K : PySem.W.Frag) (hK : X.K = K) (hu : X.A.units + 64 < cLine) : OpR X (compareOp .NotEq) (rNeD K) := by subst hK; exact op_neD hu
theorem ix_K (K : PySem.W.Frag) (hK : X.K = K) : IxR X (rIx K) := by subst hK; exact ix_seq
theorem sl_K (K : PySem.W.Frag) (hK : X.K = K) : SlR X (rSlL K) := by subst hK; exact sl_list
theorem len_K (K : PySem.W.Frag) (hK : X.K = K) : CallR X (.builtin "len") (rLenQ K) := by subst hK; exact call_len_seq
theorem list_K (K : PySem.W.Frag) (hK : X.K = K) : CallR X (.type "list") (rListQ K) := by subst hK; exact call_list_of
theorem tuple_K (K : PySem.W.Frag) (hK : X.K = K) : CallR X (.type "tuple") (rTupQ K) := by subst hK; exact call_tuple_of
theorem isi_K (K : PySem.W.Frag) (hK : X.K = K) : CallR X (.builtin "isinstance") (rIsi K) := by subst hK; exact call_isi
theorem all_K (K : PySem.W.Frag) (hK : X.K = K) (hc : X.calm = true) : CallR X (.builtin "all") (rAll K) := by subst hK; exact cr_all hc
theorem sum_K (K : PySem.W.Frag) (hK : X.K = K) (hc : X.calm = true) : CallR X (.builtin "sum") (rSum K) := by subst hK; exact cr_sum hc
theorem sorted_K (K : PySem.W.Frag) (hK : X.K = K) : CallR X (.builtin "sorted") (rSorted K) := by subst hK; exact cr_sorted
theorem list_pi (K : PySem.W.Frag) (hK : X.K = K) {tg l : Expr} {tl : TE} (hl : PE X l tl) : PI X tg l (iList K tl) := by subst hK; exact pi_list hl
theorem tup_pi (K : PySem.W.Frag) (hK : X.K = K) {tg l : Expr} {tl : TE} (hl : PE X l tl) : PI X tg l (iTup K tl) := by subst hK; exact pi_tup hl
theorem pgt_K (K : PySem.W.Frag) (hK : X.K = K) {es : List Expr} {k : Nat} {t : TGs} {n : Nat} {pos : Pos} (hc : X.calm = true) (h : PGs X es t)
    (hn : (assignEach es X.env).length = n := by rfl) (hst : (assignEach es X.env).findIdx? (·.1) = none := by rfl) : PG X (.Tuple es k pos) (gTup K n t) := by subst hK; exact pg_tup hc h hn hst
theorem inL_K (K : PySem.W.Frag) (hK : X.K = K) (hu : X.A.units + 65 < cLine) : OpR X (compareOp .In) (rInD K) := by subst hK; exact op_inD hu
theorem ninL_K (K : PySem.W.Frag) (hK : X.K = K) (hu : X.A.units + 65 < cLine) : OpR X (compareOp .NotIn) (rNotInD K) := by subst hK; exact op_notInD hu
theorem inF_K (K : PySem.W.Frag) (hK : X.K = K) : OpR X (compareOp .In) (rIn K false) := by subst hK; exact op_in_seq
theorem ninF_K (K : PySem.W.Frag) (hK : X.K = K) : OpR X (compareOp .NotIn) (rIn K true) := by subst hK; exact op_notIn_seq
theorem index_K (K : PySem.W.Frag) (hK : X.K = K) : MtR X "list.index" (rIndex K) := by subst hK; exact mt_index
theorem zip_pi (K : PySem.W.Frag) (hK : X.K = K) {e e2 : Expr} {ta : TA} {p pos tpos : Pos} {elts : List Expr} {kk : Nat} (hg : Gl X "zip") (hm : X.mg "zip" = none) (ha : PA X [e, e2] ta)
    (hs : starEach [e, e2] X.env = (false, eval e X.env) :: starEach [e2] X.env := by rfl) (hpl : (backTo pos (starEach [e2] X.env)).any (·.1) = false := by rfl) :
    PI X (.Tuple elts kk tpos) (.Call (.Name "zip" p) [e, e2] [] pos) (iZip K ta) := by subst hK; exact pi_zip hg hm ha hs hpl
theorem rev_K (K : PySem.W.Frag) (hK : X.K = K) {e : Expr} {te : TE} {k : Nat} {p1 p2 p3 pos : Pos} (he : PE X e te) : PE X (.Subscript e (.Slice none none (some (.UnaryOp .USub (.Constant (.int 1) k p1) p2)) p3) pos) (tRevL K te) := by subst hK; exact pe_revL he
variable {o e : Expr} {es : List Expr} {to : TE} {t : TA} {name : Str} {apos cpos : Pos} {T id : String} {r : V → List V → Hp → VK → Prop}
theorem bm_K (K : PySem.W.Frag) (hK : X.K = K) (pa : PlainAttrs T) (slot : Slot T name id) (hty : typeOf (.builtin id) = pure (.type "method_descriptor")) (hm : MtR X id r) (ho : PE X o to) (ha : PA X (e :: es) t)
    (hbase : attributeBase o name X.env (eval o X.env) = eval o X.env := by rfl)
    (hfew : ((backTo cpos (starEach (e :: es) X.env)).all (fun x => !x.1) && (backToKw cpos (keywordEach [] X.env)).all (fun x => x.1.isSome)
      && decide ((e :: es).length + ([] : List Keyword).length + (if ([] : List Keyword).isEmpty then 0 else 1) < 30)) = true := by rfl)
    (hline : (apos.endLine == cpos.line) = true := by rfl) (hs : starEach (e :: es) X.env = (false, eval e X.env) :: starEach es X.env := by rfl) (hplain : (backTo cpos (starEach es X.env)).any (·.1) = false := by rfl) :
    PE X (.Call (.Attribute o name apos) (e :: es) [] cpos) (tBM K T r to t) := by subst hK; exact pe_bm pa slot hty hm ho ha hbase hfew hline hs hplain
end
end DL

namespace DL
open PySem L2
theorem kb_none_int : kitB "NoneType" "int" = some false := by decide +kernel
theorem kb_none_bool : kitB "NoneType" "bool" = some false := by decide +kernel
theorem kb_none_list : kitB "NoneType" "list" = some false := by decide +kernel
theorem kb_none_tuple : kitB "NoneType" "tuple" = some false := by decide +kernel
theorem kb_bool_int : kitB "bool" "int" = some true := by decide +kernel
theorem kb_bool_bool : kitB "bool" "bool" = some true := by decide +kernel
theorem kb_bool_list : kitB "bool" "list" = some false := by decide +kernel
theorem kb_bool_tuple : kitB "bool" "tuple" = some false := by decide +kernel
theorem kb_int_int : kitB "int" "int" = some true := by decide +kernel
theorem kb_int_bool : kitB "int" "bool" = some false := by decide +kernel
theorem kb_int_list : kitB "int" "list" = some false := by decide +kernel
theorem kb_int_tuple : kitB "int" "tuple" = some false := by decide +kernel
theorem kb_str_int : kitB "str" "int" = some false := by decide +kernel
theorem kb_str_bool : kitB "str" "bool" = some false := by decide +kernel
theorem kb_str_list : kitB "str" "list" = some false := by decide +kernel
theorem kb_str_tuple : kitB "str" "tuple" = some false := by decide +kernel
theorem kb_list_int : kitB "list" "int" = some false := by decide +kernel
theorem kb_list_bool : kitB "list" "bool" = some false := by decide +kernel
theorem kb_list_list : kitB "list" "list" = some true := by decide +kernel
theorem kb_list_tuple : kitB "list" "tuple" = some false := by decide +kernel
theorem kb_tuple_int : kitB "tuple" "int" = some false := by decide +kernel
theorem kb_tuple_bool : kitB "tuple" "bool" = some false := by decide +kernel
theorem kb_tuple_list : kitB "tuple" "list" = some false := by decide +kernel
theorem kb_tuple_tuple : kitB "tuple" "tuple" = some true := by decide +kernel
theorem kb_dict_int : kitB "dict" "int" = some false := by decide +kernel
theorem kb_dict_bool : kitB "dict" "bool" = some false := by decide +kernel
theorem kb_dict_list : kitB "dict" "list" = some false := by decide +kernel
theorem kb_dict_tuple : kitB "dict" "tuple" = some false := by decide +kernel
mutual
/-- data of a script's making: no frozen script, no dict but the empty one -/
def pln : D → Bool
  | .list ds => plns ds
  | .tuple ds => plns ds
  | .dict kvs => kvs.isEmpty
  | _ => true
def plns : List D → Bool
  | [] => true
  | d :: ds => pln d && plns ds
end
theorem pln_scr {d : D} (h : pln d = true) : isScr d = false := by
  cases d with
  | dict kvs => cases kvs with
    | nil => rfl
    | cons x y => simp [pln] at h
  | _ => rfl
theorem plns_mem : ∀ {ds : List D}, plns ds = true → ∀ d, d ∈ ds → pln d = true
  | [], _, _, h => by cases h
  | e :: ds, h, d, hd => by
    simp only [plns, Bool.and_eq_true] at h
    rcases List.mem_cons.mp hd with rfl | hd
    · exact h.1
    · exact plns_mem h.2 d hd
theorem plns_of : ∀ {ds : List D}, (∀ d, d ∈ ds → pln d = true) → plns ds = true
  | [], _ => rfl
  | e :: ds, h => by
    simp only [plns, Bool.and_eq_true]
    exact ⟨h e List.mem_cons_self, plns_of fun d hd => h d (List.mem_cons_of_mem _ hd)⟩
end DL
namespace DL
open PySem L2 TT
def tieD (t : Tie) : D := .tuple [natD t.1, natD t.2]
theorem marks_len (n : Nat) : ∀ (ts : List Tie) (m : List Nat), m.length = n → (ts.foldl mstep m).length = n
  | [], m, h => h
  | t :: ts, m, h => marks_len n ts (mstep m t) (by unfold mstep; rw [List.length_map]; exact h)
theorem marks_length (n : Nat) (ts : List Tie) : (marks n ts).length = n := marks_len n ts _ List.length_range
theorem marks_take {n : Nat} {ts : List Tie} {k : Nat} {x : Tie} (h : ts[k]? = some x) : marks n (ts.take (k + 1)) = mstep (marks n (ts.take k)) x := by
  unfold marks
  rw [List.take_add_one, h, List.foldl_append]
  rfl
end DL

namespace DL
open PySem L2
section
variable {C : Ct} {env : List Sl} {n : Bool} {d : D} {ds es fs : List D} {i : Nat} {te : TE} {D : Ends} {u : TS}
theorem run_appendE (hi : env[i]? = some (.own n ds)) (h : JD C.K te env n d) (hz : ds.length < 100000) (k : Run C D u (env.set i (.own n es))) (e : ds ++ [d] = es) : Run C D (tSeq (tDrop (tBM C.K "list" rAppend (tVar i) (tCons te tNil))) u) env := by
  subst e
  exact run_append hi h hz k
theorem run_extendE (hi : env[i]? = some (.own n ds)) (h : JS C.K te env n es) (hz : ds.length + es.length ≤ 100000) (k : Run C D u (env.set i (.own n fs))) (e : ds ++ es = fs) : Run C D (tSeq (tDrop (tBM C.K "list" rExtend (tVar i) (tCons te tNil))) u) env := by
  subst e
  exact run_extend hi h hz k
theorem run_put2 {tk1 tk2 : TE} {z1 z2 : Int} {d1 d2 : DL.D} (hi : env[i]? = some (.own n ds)) (h : JU C.K te env n [d1, d2]) (hk1 : JV C.K tk1 env (.int z1)) {j1 j2 : Nat} (hz1 : z1 = (j1 : Int)) (hj1 : j1 < ds.length)
    (hk2 : JV C.K tk2 (env.set i (.own n (ds.set j1 d1))) (.int z2)) (hz2 : z2 = (j2 : Int)) (hj2 : j2 < ds.length) (k : Run C D u (env.set i (.own n ((ds.set j1 d1).set j2 d2)))) :
    Run C D (tSeq (tAsg te (gTup C.K 2 (gCons (gSub (tVar i) tk1 rSetL) (gCons (gSub (tVar i) tk2 rSetL) gNil)))) u) env := fun L σ H g => by
  refine g.eval h fun v H1 s1 g1 ⟨a, vs, e1, e2, e3⟩ => ?_
  cases e3 with
  | cons r1 e3 =>
    cases e3 with
    | cons r2 e3 =>
      cases e3
      rename_i v1 v2
      refine ⟨a, _, e1, SqT.of e2, rfl, v1, _, rfl, ?_⟩
      obtain ⟨p, us, hs, mp, q3, r⟩ := g1.ok.sl i _ hi
      have il : i < env.length := (List.getElem?_eq_some_iff.mp hi).1
      refine ⟨.ref p, hs, ?_⟩
      refine g1.eval hk1 fun w H2 s2 g2 ew => ?_
      have ew' : w = V.int z1 := ew
      rw [ew', hz1]
      have kp : Keep (Sn n (fun a => C.M a ∨ L a) (fun a => C.B a ∨ L a)) (Sn n (fun a => C.M a ∨ L a) (fun a => C.B a ∨ L a)) H2 (upd H2 p (.lst (us.set j1 v1))) := .mut ((sn_or n _ _ _ _).mpr (.inr (g1.ol i n ds p hi hs))) (s2 _ _ q3)
      have g3 := g2.mutate hi hs (RpA.set ((Keep.ext s2).rp r1) j1 ((Keep.ext s2).rpA r))
      have r2' := kp.rp ((Keep.ext s2).rp r2)
      have hl : us.length = ds.length := r.length
      refine ⟨p, us, (j1 : Int), j1, rfl, rfl, s2 _ _ q3, ?_, ?_⟩
      · unfold ixN
        rw [if_pos (by omega), if_pos (by omega)]
        simp
      · refine ⟨v2, _, rfl, .ref p, hs, ?_⟩
        refine g3.eval hk2 fun w' H4 s4 g4 ew => ?_
        have ew' : w' = V.int z2 := ew
        rw [ew', hz2]
        have hi' : (env.set i (.own n (ds.set j1 d1)))[i]? = some (.own n (ds.set j1 d1)) := List.getElem?_set_self il
        obtain ⟨p', us', hs', mp', q3', r'⟩ := g4.ok.sl i _ hi'
        rw [hs] at hs'
        cases hs'
        refine ⟨p, us', (j2 : Int), j2, rfl, rfl, q3', ?_, ?_⟩
        · have hl' : us'.length = ds.length := by rw [r'.length, List.length_set]
          unfold ixN
          rw [if_pos (by omega), if_pos (by omega)]
          simp
        · have fin := g4.mutate hi' hs (RpA.set ((Keep.ext s4).rp r2') j2 r')
          rw [List.set_set] at fin
          exact ⟨rfl, k L σ _ fin⟩
theorem run_ifJ {tt : L2.TT} {t1 t2 : TS} {b : Bool} (J : List Sl → Prop) (h : Jt C.K tt env b) (k : ∀ env', J env' → Run C D u env') (k1 : (∀ env', J env' → Run C D u env') → b = true → Run C D (tSeq t1 u) env)
    (k2 : (∀ env', J env' → Run C D u env') → b = false → Run C D (tSeq t2 u) env) : Run C D (tSeq (tIfS tt t1 t2) u) env := run_if h (k1 k) (k2 k)
end
section
variable {K : PySem.W.Frag} {env : List Sl} {te : TE} {v : V}
theorem Jd.intsN {n m : Bool} {ns : List Int} (h : JN K te env n (ns.map PyData.int)) : JN K te env m (ns.map PyData.int) := h.imp fun M B H x H' w s ⟨a, vs, h1, h2, h3, h4⟩ => ⟨a, vs, h1, h2, h3, by
  rw [RpA.ints_inv h4]
  exact RpA.ints ns⟩
theorem jv_isN (h : JV K te env v) : JV K (tIsN te) env (.bl (decide (v = .non))) := fun M B σ H Q w e q => h M B σ H _ w e fun x H1 s1 p1 => by
  have e1 : x = v := p1
  rw [e1]
  exact q _ _ s1 rfl
theorem jv_notN (h : JV K te env v) : JV K (tNotN te) env (.bl (!decide (v = .non))) := fun M B σ H Q w e q => h M B σ H _ w e fun x H1 s1 p1 => by
  have e1 : x = v := p1
  rw [e1]
  exact q _ _ s1 rfl
/-! the script -/
theorem jv_lenScr {n : Bool} {ns : List Int} (ha : JD K te env n (scrD ns)) : JV K (tCB (rLenQ K) (tCons te tNil)) env (.int (ns.length : Int)) := jd_cb1 ha fun _ _ _ _ H1 _ _ p1 Q q => by
  obtain ⟨a, rfl, h⟩ := Rp.scr_inv p1 rfl
  exact ⟨a, _, rfl, .inl h.seq, q _ _ (Same.refl _) (by rw [List.length_map]; rfl)⟩
theorem jv_ixScr {tb : TE} {n : Bool} {ns : List Int} {k : Int} (j : Nat) (ha : JD K te env n (scrD ns)) (hb : JV K tb env (.int k)) (hk : k = (j : Int)) (hj : j < ns.length) : JV K (tOp (rIx K) te tb) env (.int (ns.getD j 0)) :=
  Jd.op ha hb fun M B H x y H1 H2 wf s1 s2 p1 p2 Q q => by
    obtain ⟨a, rfl, h⟩ := Rp.scr_inv ((Keep.ext s2).rp p1) rfl
    have e2 : y = .int k := p2
    exact .inl ⟨a, _, k, _, rfl, e2, h.seq, atI_map V.int ns 0 hk hj, q _ _ (Same.refl _) rfl⟩
structure ScrOk (ns : List Int) : Prop where
  len : ns.length ≤ 63
  bits : ∀ z, z ∈ ns → z.natAbs.log2 ≤ 1048576
/-- the script's number at a place, mixed -/
def cellf (ns : List Int) (k : Nat) : Int := ns.getD k 0
def mixf (ns : List Int) (k : Nat) : Nat := ((cellf ns k * 48271 + 7919 * (k : Int) * (k : Int)) % 1000003).toNat
theorem mixf_eq (ns : List Int) (k : Nat) : (cellf ns k * 48271 + 7919 * (k : Int) * (k : Int)) % 1000003 = (mixf ns k : Int) := by
  unfold mixf
  omega
theorem mixf_lt (ns : List Int) (k : Nat) : mixf ns k < 1000003 := by
  unfold mixf
  omega
theorem ScrOk.cell {ns : List Int} (h : ScrOk ns) (k : Nat) : (cellf ns k).natAbs.log2 ≤ 1048576 := by
  unfold cellf
  rw [List.getD_eq_getElem?_getD]
  by_cases c : k < ns.length
  · rw [List.getElem?_eq_getElem c]
    exact h.bits _ (List.getElem_mem c)
  · rw [List.getElem?_eq_none (by omega)]
    exact Nat.zero_le _
theorem cmul64 {i j : Int} (h1 : i.natAbs < 2 ^ 200) (h2 : j.natAbs < 2 ^ 200) : CMulB i j := cmulWB (wide_mul h1 h2 (by decide) (by decide) (by decide))
theorem cmulS {i : Int} (h1 : i.natAbs.log2 ≤ 1048576) : CMulB i 48271 := Nat.lt_of_le_of_lt (Nat.add_le_add_right h1 _) (by decide)
theorem jv_mulS {ta tb : TE} {j k : Int} (ha : JV K ta env (.int j)) (hb : JV K tb env (.int k)) (h1 : j.natAbs < 2 ^ 200) (h2 : k.natAbs < 2 ^ 200) : JV K (tOp rMulD ta tb) env (.int (j * k)) := jv_mulW ha hb (cmul64 h1 h2)
end
/-! data of ints, lists and tuples -/
mutual
def nd : D → Bool
  | .int _ => true
  | .list xs => nds xs
  | .tuple xs => nds xs
  | .none | .bool _ | .str _ | .dict _ => false
def nds : List D → Bool
  | [] => true
  | x :: xs => nd x && nds xs
end
mutual
theorem nd_lay : ∀ {d : D}, nd d = true → d.canLay0 = true
  | .int _, _ => rfl
  | .list xs, h => by simp only [nd] at h; simp only [PyData.canLay0]; exact nds_lay h
  | .tuple xs, h => by simp only [nd] at h; simp only [PyData.canLay0]; exact nds_lay h
  | .none, h => by simp [nd] at h
  | .bool _, h => by simp [nd] at h
  | .str _, h => by simp [nd] at h
  | .dict _, h => by simp [nd] at h
theorem nds_lay : ∀ {ds : List D}, nds ds = true → PyData.canLayAll0 ds = true
  | [], _ => rfl
  | x :: xs, h => by
    simp only [nds, Bool.and_eq_true] at h
    simp only [PyData.canLayAll0, Bool.and_eq_true]
    exact ⟨nd_lay h.1, nds_lay h.2⟩
end
mutual
theorem nd_eqv : ∀ {d e : D}, nd d = true → nd e = true → PyData.eqv d e = true → d = e
  | .int i, .int j, _, _, h => by simp only [PyData.eqv, beq_iff_eq] at h; rw [h]
  | .list xs, .list ys, h1, h2, h => by
    simp only [nd] at h1 h2
    simp only [PyData.eqv] at h
    rw [nds_eqv h1 h2 h]
  | .tuple xs, .tuple ys, h1, h2, h => by
    simp only [nd] at h1 h2
    simp only [PyData.eqv] at h
    rw [nds_eqv h1 h2 h]
  | .int _, .list _, _, _, h => by simp [PyData.eqv] at h
  | .int _, .tuple _, _, _, h => by simp [PyData.eqv] at h
  | .list _, .int _, _, _, h => by simp [PyData.eqv] at h
  | .list _, .tuple _, _, _, h => by simp [PyData.eqv] at h
  | .tuple _, .int _, _, _, h => by simp [PyData.eqv] at h
  | .tuple _, .list _, _, _, h => by simp [PyData.eqv] at h
  | .none, _, h, _, _ => by simp [nd] at h
  | .bool _, _, h, _, _ => by simp [nd] at h
  | .str _, _, h, _, _ => by simp [nd] at h
  | .dict _, _, h, _, _ => by simp [nd] at h
  | _, .none, _, h, _ => by simp [nd] at h
  | _, .bool _, _, h, _ => by simp [nd] at h
  | _, .str _, _, h, _ => by simp [nd] at h
  | _, .dict _, _, h, _ => by simp [nd] at h
theorem nds_eqv : ∀ {ds es : List D}, nds ds = true → nds es = true → PyData.eqvAll ds es = true → ds = es
  | [], [], _, _, _ => rfl
  | x :: xs, y :: ys, h1, h2, h => by
    simp only [nds, Bool.and_eq_true] at h1 h2
    simp only [PyData.eqvAll, Bool.and_eq_true] at h
    rw [nd_eqv h1.1 h2.1 h.1, nds_eqv h1.2 h2.2 h.2]
  | [], _ :: _, _, _, h => by simp [PyData.eqvAll] at h
  | _ :: _, [], _, _, h => by simp [PyData.eqvAll] at h
end
theorem nds_of : ∀ {ds : List D}, (∀ d, d ∈ ds → nd d = true) → nds ds = true
  | [], _ => rfl
  | e :: ds, h => by
    simp only [nds, Bool.and_eq_true]
    exact ⟨h e List.mem_cons_self, nds_of fun d hd => h d (List.mem_cons_of_mem _ hd)⟩
theorem depthAll_le {k : Nat} : ∀ {ds : List D}, (∀ d, d ∈ ds → d.depth ≤ k) → PyData.depthAll ds ≤ k
  | [], _ => Nat.zero_le _
  | e :: ds, h => by
    simp only [PyData.depthAll]
    exact Nat.max_le.mpr ⟨h e List.mem_cons_self, depthAll_le fun d hd => h d (List.mem_cons_of_mem _ hd)⟩
/-- such data, of a depth -/
structure OkD (k : Nat) (d : D) : Prop where
  nd : nd d = true
  dp : d.depth ≤ k
theorem okD_int {k : Nat} (i : Int) : OkD k (.int i) := ⟨rfl, by simp [PyData.depth]⟩
theorem okD_list {k : Nat} {ds : List D} (h : ∀ d, d ∈ ds → OkD k d) : OkD (k + 1) (.list ds) := ⟨by simp only [DL.nd]; exact nds_of fun d hd => (h d hd).nd, by simp only [PyData.depth]; exact Nat.succ_le_succ (depthAll_le fun d hd => (h d hd).dp)⟩
theorem okD_tuple {k : Nat} {ds : List D} (h : ∀ d, d ∈ ds → OkD k d) : OkD (k + 1) (.tuple ds) := ⟨by simp only [DL.nd]; exact nds_of fun d hd => (h d hd).nd, by simp only [PyData.depth]; exact Nat.succ_le_succ (depthAll_le fun d hd => (h d hd).dp)⟩
theorem OkD.shaped {k : Nat} {d : D} (h : OkD k d) (hk : k ≤ 64) : SeqAt.shaped d = true := by
  unfold SeqAt.shaped
  rw [nd_lay h.nd, decide_eq_true (Nat.le_trans h.dp hk)]
  rfl
theorem OkD.noDict {k : Nat} {d : D} (h : OkD k d) : noDict d = true := noDict_lay d (nd_lay h.nd)
theorem OkD.eqv {k j : Nat} {d e : D} (h : OkD k d) (h' : OkD j e) {b : Bool} (q : b = true ↔ d = e) : PyData.eqv d e = b := by
  have r := SeqAt.eqv_refl d (nd_lay h.nd)
  cases b with
  | true => rw [← q.mp rfl]; exact r
  | false =>
    cases c : PyData.eqv d e with
    | false => rfl
    | true => exact absurd (q.mpr (nd_eqv h.nd h'.nd c)) Bool.false_ne_true
theorem okD_ints {k : Nat} (ns : List Int) : OkD (k + 1) (.list (ns.map PyData.int)) := okD_list fun d hd => by
  obtain ⟨i, _, rfl⟩ := List.mem_map.mp hd
  exact okD_int i
section
variable {K : PySem.W.Frag} {env : List Sl} {ta tb : TE} {d e : D} {k j : Nat} {b : Bool}
theorem jv_eqB (ha : JE K ta env d) (hb : JE K tb env e) (h1 : OkD k d) (h2 : OkD j e) (q : b = true ↔ d = e) (hk : k ≤ 64 := by decide) (hj : j ≤ 64 := by decide) : JV K (tOp (rEqD K) ta tb) env (.bl b) :=
  (jv_eq ha hb (h1.shaped hk) (h2.shaped hj)).eqV (congrArg V.bl (h1.eqv h2 q))
theorem jv_neB (ha : JE K ta env d) (hb : JE K tb env e) (h1 : OkD k d) (h2 : OkD j e) (q : b = true ↔ d = e) (hk : k ≤ 64 := by decide) (hj : j ≤ 64 := by decide) : JV K (tOp (rNeD K) ta tb) env (.bl (!b)) :=
  (jv_ne ha hb (h1.shaped hk) (h2.shaped hj)).eqV (congrArg (fun b => V.bl (!b)) (h1.eqv h2 q))
theorem jd_eE {n : Bool} (h : JD K ta env n d) (o : OkD k d) : JE K ta env d := h.dE o.noDict
theorem js_eE {n : Bool} {ds : List D} (h : JS K ta env n ds) (o : OkD k (.list ds)) : JE K ta env (.list ds) := h.sE (by have := o.noDict; simpa [noDict] using this)
end
section
variable {P : Program} {w : World} {K : PySem.W.Frag} {mg : Str → Option Value} {base : Heap}
/-- the rule for a def that no exception leaves -/
theorem fnD0 {x qual : Str} {st : Stmt} {f : Addr} {fd : FuncData} {N ps : List Str} {k : Nat} {cl : XC → Addr} {fl : List Bool} {r : Bool} {Pre : List D → Prop} {Post : List D → Out → Prop} (F : Fun K x qual st f fd) (S : FnScope N ps (defScope st)) (hl : fl.length = ps.length)
    (body : ∀ (cdv : Value) (A : Around) (outer : List Env) (s : Shared) (E : XK) (M B : As) (H : Hp) (Q : VK) (ds : List D), Room k (A.deeper (PyProof.Rows.envOfC qual (defScope st) s.heap.objs.size f cdv)) → Pre ds → Wf M B H → (∀ out, Post ds out → OutOk K cl M B r H Q E out) →
      ∃ t, PSs (cxOf CX0 P w K mg base N qual (defScope st) f cdv A outer s H E).nox (defBody st) t ∧ Run ⟨K, M, B, H, H⟩ { nx := fun _ H' => Q .non H', rt := Q } t (argEnv fl ds N.length)) : FnOk P w K mg base CX0 (k + 1) f fd ps (spD K cl fl r Pre Post) := by
  refine F.ok S (fun vs H Q E h => ?_) (fun cdv A outer s H vs Q E hr h => ?_)
  · obtain ⟨M, B, ds, _, rf, _⟩ := h
    rw [rf.len, hl]
  · obtain ⟨M, B, ds, wf, rf, hp, ho⟩ := h
    obtain ⟨t, ht, run⟩ := body cdv A outer s E M B H Q ds hr hp wf ho
    refine ⟨t, ht, run (fun _ => False) _ H ⟨Same.refl H, Same.refl H, wf, fun a z => z.elim, ?_, fun i j p n m ds es h1 => absurd h1 (argEnv_noOwn i n ds), fun i n ds p h1 => absurd h1 (argEnv_noOwn i n ds)⟩⟩
    have e1 : (fun a => M a ∨ False) = M := funext fun a => propext ⟨fun z => z.elim id fun y => y.elim, .inl⟩
    have e2 : (fun a => B a ∨ False) = B := funext fun a => propext ⟨fun z => z.elim id fun y => y.elim, .inl⟩
    show EnvOk K (fun a => M a ∨ False) (fun a => B a ∨ False) H _ _
    rw [e1, e2]
    exact start_ok N rf
/-- what a law is asked -/
def preLaw (ds : List D) : Prop := ∃ ns, ds = [scrD ns] ∧ ScrOk ns
def postLaw (_ : List D) (out : Out) : Prop := out = .val (.bool true)
theorem law_sp {cl : XC → Addr} {H : Hp} {a : Addr} {ns : List Int} (h1 : ns.length ≤ 63) (h2 : ∀ z ∈ ns, Builtin.Int.intBits z ≤ 1048576) (h : SqL K H a (ns.map V.int)) :
    spD K cl [false] true preLaw postLaw [.ref a] H (fun v _ => v = .bl true) fun _ _ _ => False := by
  refine ⟨fun _ => False, fun _ => False, [scrD ns], ⟨fun _ z => z, fun _ z => z.elim⟩, .cons (.scr (ScrAt.of h)) .nil, ⟨ns, rfl, h1, fun z hz => ?_⟩, fun out po => ?_⟩
  · have := h2 z hz
    unfold Builtin.Int.intBits at this
    split at this
    · rename_i e
      have e' : z = 0 := by simpa using e
      rw [e']
      exact Nat.zero_le _
    · omega
  · have e : out = .val (.bool true) := po
    subst e
    exact fun v H' s r => Rp.flat r rfl
end
end DL

namespace TT
open DL
/-! the rows as lists -/
def ent (R : List (List Int)) : Mat := fun i j => (R.getD i []).getD j 0
structure Sq (n : Nat) (R : List (List Int)) : Prop where
  len : R.length = n
  row : ∀ r, r ∈ R → r.length = n
theorem Sq.at {n : Nat} {R : List (List Int)} (s : Sq n R) {i : Nat} (h : i < n) : (R.getD i []).length = n := by
  have h' : i < R.length := by rw [s.len]; exact h
  rw [List.getD_eq_getElem?_getD, List.getElem?_eq_getElem h']
  exact s.row _ (List.getElem_mem _)
def sweptRow (top row : List Int) (a : Nat) (last : Int) : List Int := (List.range row.length).map fun k => (row.getD k 0 * top.getD a 0 - row.getD a 0 * top.getD k 0).fdiv last
def sweptL (R : List (List Int)) (a : Nat) (last : Int) : List (List Int) := R.take (a + 1) ++ (R.drop (a + 1)).map fun row => sweptRow (R.getD a []) row a last
def swapL (R : List (List Int)) (a k : Nat) : List (List Int) := R.take a ++ [R.getD k []] ++ (R.drop (a + 1)).take (k - (a + 1)) ++ [R.getD a []] ++ R.drop (k + 1)
theorem sweptL_sq {n a : Nat} {R : List (List Int)} {last : Int} (s : Sq n R) (ha : a < n) : Sq n (sweptL R a last) := by
  refine ⟨?_, fun r hr => ?_⟩
  · have := s.len
    simp [sweptL]; omega
  · rcases List.mem_append.mp hr with h | h
    · exact s.row r (List.mem_of_mem_take h)
    · obtain ⟨q, hq, rfl⟩ := List.mem_map.mp h
      unfold sweptRow
      rw [List.length_map, List.length_range]
      exact s.row q (List.mem_of_mem_drop hq)
theorem sweptL_low {n a i : Nat} {R : List (List Int)} {last : Int} (s : Sq n R) (ha : a < n) (hi : i ≤ a) : (sweptL R a last).getD i [] = R.getD i [] := by
  have := s.len
  unfold sweptL
  rw [List.getD_eq_getElem?_getD, List.getElem?_append_left (by rw [List.length_take]; omega), List.getElem?_take, if_pos (by omega), List.getD_eq_getElem?_getD]
theorem sweptL_high {n a i : Nat} {R : List (List Int)} {last : Int} (s : Sq n R) (ha : a < n) (hi : a < i) (hn : i < n) : (sweptL R a last).getD i [] = sweptRow (R.getD a []) (R.getD i []) a last := by
  have hl := s.len
  have h' : i < R.length := by omega
  have hg : R.getD i [] = R[i] := by rw [List.getD_eq_getElem?_getD, List.getElem?_eq_getElem h']; rfl
  rw [hg]
  unfold sweptL
  generalize R.getD a [] = top
  rw [List.getD_eq_getElem?_getD, List.getElem?_append_right (by rw [List.length_take]; omega), List.length_take, List.getElem?_map, List.getElem?_drop]
  have e : a + 1 + (i - min (a + 1) R.length) = i := by omega
  rw [e, List.getElem?_eq_getElem h']
  rfl
theorem sweptRow_get {top row : List Int} {a k : Nat} {last : Int} (h : k < row.length) : (sweptRow top row a last).getD k 0 = (row.getD k 0 * top.getD a 0 - row.getD a 0 * top.getD k 0).fdiv last := by
  unfold sweptRow
  rw [List.getD_eq_getElem?_getD, List.getElem?_map, List.getElem?_range h]
  rfl
theorem sweptL_ent {n a i j : Nat} {R : List (List Int)} {last : Int} (s : Sq n R) (ha : a < n) (hi : a < i) (hn : i < n) (hj : j < n) :
    ent (sweptL R a last) i j = (ent R i j * ent R a a - ent R i a * ent R a j).fdiv last := by
  show ((sweptL R a last).getD i []).getD j 0 = _
  rw [sweptL_high s ha hi hn, sweptRow_get (by rw [s.at hn]; exact hj)]
  rfl
theorem swapL_sq {n a k : Nat} {R : List (List Int)} (s : Sq n R) (ha : a < k) (hk : k < n) : Sq n (swapL R a k) := by
  have hl := s.len
  refine ⟨?_, fun r hr => ?_⟩
  · simp [swapL]; omega
  · simp only [swapL, List.mem_append, List.mem_singleton] at hr
    rcases hr with (((h | h) | h) | h) | h
    · exact s.row r (List.mem_of_mem_take h)
    · rw [h]; exact s.at hk
    · exact s.row r (List.mem_of_mem_drop (List.mem_of_mem_take h))
    · rw [h]; exact s.at (by omega)
    · exact s.row r (List.mem_of_mem_drop h)
theorem swapL_get {n a k i : Nat} {R : List (List Int)} (s : Sq n R) (ha : a < k) (hk : k < n) (hi : i < n) : (swapL R a k).getD i [] = R.getD (if i = a then k else if i = k then a else i) [] := by
  have hl := s.len
  have l1 : (R.take a).length = a := by rw [List.length_take]; omega
  have l3 : ((R.drop (a + 1)).take (k - (a + 1))).length = k - (a + 1) := by rw [List.length_take, List.length_drop]; omega
  unfold swapL
  generalize e7 : R.getD k [] = rk
  generalize e8 : R.getD a [] = ra
  simp only [List.append_assoc]
  rw [List.getD_eq_getElem?_getD, List.getElem?_append, l1]
  by_cases c1 : i < a
  · rw [if_pos c1, List.getElem?_take, if_pos c1, if_neg (by omega), if_neg (by omega), List.getD_eq_getElem?_getD]
  · rw [if_neg c1, List.getElem?_append]
    by_cases c2 : i = a
    · rw [if_pos (by simp; omega), if_pos c2, c2, Nat.sub_self, e7]
      rfl
    · rw [if_neg (by simp; omega), if_neg c2, List.getElem?_append, l3]
      have e0 : ([rk] : List (List Int)).length = 1 := rfl
      rw [e0]
      by_cases c3 : i < k
      · rw [if_pos (by omega), if_neg (by omega), List.getElem?_take, if_pos (by omega), List.getElem?_drop, List.getD_eq_getElem?_getD]
        have e : a + 1 + (i - a - 1) = i := by omega
        rw [e]
      · rw [if_neg (by omega), List.getElem?_append]
        by_cases c4 : i = k
        · have e : i - a - 1 - (k - (a + 1)) = 0 := by omega
          rw [if_pos (by rw [e]; exact Nat.one_pos), if_pos c4, e, e8]
          rfl
        · rw [if_neg (by simp; omega), if_neg c4, List.getElem?_drop, List.getD_eq_getElem?_getD]
          have e : k + 1 + (i - a - 1 - (k - (a + 1)) - 1) = i := by omega
          have e1 : ([ra] : List (List Int)).length = 1 := rfl
          rw [e1, e]
theorem swapL_ent {n a k i : Nat} {R : List (List Int)} (s : Sq n R) (ha : a < k) (hk : k < n) (hi : i < n) (j : Nat) : ent (swapL R a k) i j = swapRows (ent R) a k i j := by
  show ((swapL R a k).getD i []).getD j 0 = _
  rw [swapL_get s ha hk hi]
  rfl
theorem BInv.congr {n a : Nat} {M R R' : Mat} {side last : Int} (B : BInv n a M R side last) (ha : a ≤ n) (h : ∀ i j, i < n → j < n → R' i j = R i j) : BInv n a M R' side last := by
  obtain ⟨P, e1, e2, e3, e4, e5, e6⟩ := B.ex
  refine ⟨P, e1, e2, e3, e4, e5, fun i hi hin => ?_⟩
  obtain ⟨z, q, c, hq, hh⟩ := e6 i hi hin
  refine ⟨fun j hj => by rw [h i j hin (by omega)]; exact z j hj, q, c, hq, fun j hj => by rw [h i j hin hj]; exact hh j hj⟩
/-- numbers below 2^60, up to eight rows -/
structure Small (n : Nat) (R : List (List Int)) : Prop where
  sq : Sq n R
  le : n ≤ 8
  bd : ∀ i j, i < n → j < n → (ent R i j).natAbs ≤ 2 ^ 60
theorem pow_le8 {a : Nat} (h : a ≤ 8) : (8 * 2 ^ 60) ^ a ≤ 2 ^ 504 := by
  have e : (8 * 2 ^ 60 : Nat) = 2 ^ 63 := by decide
  rw [e, ← Nat.pow_mul]
  exact Nat.pow_le_pow_right (by decide) (by omega)
theorem BInv.big {n a : Nat} {M : List (List Int)} {R : Mat} {side last : Int} (B : BInv n a (ent M) R side last) (s : Small n M) (ha : a < n) {i j : Nat} (hi : a ≤ i) (hin : i < n) (hj : j < n) : (R i j).natAbs ≤ 2 ^ 504 :=
  Nat.le_trans (B.bound s.le s.bd hi hin hj) (pow_le8 (by have := s.le; omega))
theorem BInv.lastBig {n a : Nat} {M : List (List Int)} {R : Mat} {side last : Int} (B : BInv n a (ent M) R side last) (s : Small n M) (ha : a ≤ n) : last.natAbs ≤ 2 ^ 504 :=
  Nat.le_trans (B.lastBound s.le ha s.bd) (pow_le8 (by have := s.le; omega))
end TT
namespace DL
open PySem L2 TT
def rowD (r : List Int) : D := .list (r.map .int)
def rowsD (R : List (List Int)) : D := .list (R.map rowD)
theorem lt_of_le504 {x : Nat} (h : x ≤ 2 ^ 504) : x < 2 ^ 505 := Nat.lt_of_le_of_lt h (Nat.pow_lt_pow_right (by decide) (by decide))
theorem cmul504 {i j : Int} (h1 : i.natAbs ≤ 2 ^ 504) (h2 : j.natAbs ≤ 2 ^ 504) : CMulB i j := cmulWB (wide_mul (lt_of_le504 h1) (lt_of_le504 h2) (by decide) (by decide) (by decide))
theorem cdiv504 {i j : Int} (h : j ≠ 0) (h2 : j.natAbs ≤ 2 ^ 504) : CDivA i j := ⟨h, Nat.lt_of_lt_of_le (PySem.Flt.log2_lt_of (by decide) (lt_of_le504 h2)) (by decide)⟩
theorem natD_inj {a b : Nat} (h : natD a = natD b) : a = b := Int.ofNat.inj (PyData.int.inj h)
theorem ints_inj {a b : List Int} (h : a.map PyData.int = b.map PyData.int) : a = b := (List.map_inj_right fun _ _ e => PyData.int.inj e).mp h
theorem rowD_inj {a b : List Int} (h : rowD a = rowD b) : a = b := ints_inj (PyData.list.inj h)
theorem rowsD_inj {a b : List (List Int)} (h : rowsD a = rowsD b) : a = b := (List.map_inj_right fun _ _ e => rowD_inj e).mp (PyData.list.inj h)
theorem tieD_inj {a b : Tie} (h : tieD a = tieD b) : a = b := by
  have h1 := PyData.tuple.inj h
  have h2 := List.cons.inj h1
  exact Prod.ext (natD_inj h2.1) (natD_inj (List.cons.inj h2.2).1)
theorem ties_inj {a b : List Tie} (h : a.map tieD = b.map tieD) : a = b := (List.map_inj_right fun _ _ e => tieD_inj e).mp h
theorem scrD_inj {a b : List Int} (h : scrD a = scrD b) : a = b := by
  have h1 := (List.cons.inj (PyData.dict.inj h)).2
  exact (List.map_inj_right fun x y e => PyData.int.inj (Prod.mk.inj e).2).mp h1
theorem sq_uniq {n m : Nat} {R : List (List Int)} (a : Sq n R) (b : Sq m R) : n = m := a.len.symm.trans b.len
theorem one_cons {α : Type} {a b : α} {as bs : List α} (h : a :: as = b :: bs) : a = b ∧ as = bs := List.cons.inj h
theorem getD_set_same {α : Type} {R : List α} {a : Nat} {r d : α} (h : a < R.length) : (R.set a r).getD a d = r := by
  rw [List.getD_eq_getElem?_getD, List.getElem?_set_self h]
  rfl
theorem getD_set_ne {α : Type} {R : List α} {a i : Nat} {r d : α} (h : i ≠ a) : (R.set a r).getD i d = R.getD i d := by
  rw [List.getD_eq_getElem?_getD, List.getElem?_set_ne (fun z => h z.symm), List.getD_eq_getElem?_getD]
theorem range_getD {α : Type} {n j : Nat} {f : Nat → α} {d : α} (h : j < n) : ((List.range n).map f).getD j d = f j := by
  rw [List.getD_eq_getElem?_getD, List.getElem?_map, List.getElem?_range h]
  rfl
theorem put_ent {n a i : Nat} {R : List (List Int)} {row : List Int} (s : Sq n R) (ha : a < n) (j : Nat) : ent (R.set a row) i j = setRow (ent R) a (fun j => row.getD j 0) i j := by
  show ((R.set a row).getD i []).getD j 0 = if i = a then row.getD j 0 else ent R i j
  by_cases c : i = a
  · rw [if_pos c, c, getD_set_same (by rw [s.len]; exact ha)]
  · rw [if_neg c, getD_set_ne c]
    rfl
theorem put_sq {n a : Nat} {R : List (List Int)} {row : List Int} (s : Sq n R) (h : row.length = n) : Sq n (R.set a row) :=
  ⟨by rw [List.length_set]; exact s.len, fun r hr => by
    rcases List.mem_or_eq_of_mem_set hr with h1 | h1
    · exact s.row r h1
    · rw [h1]; exact h⟩
def Bd (n : Nat) (b : Nat) (R : List (List Int)) : Prop := ∀ i j, i < n → j < n → (ent R i j).natAbs ≤ b
/-- rows all of length n, numbers of them up to b -/
structure Rw (n b : Nat) (R : List (List Int)) : Prop where
  row : ∀ r, r ∈ R → r.length = n
  bd : ∀ r, r ∈ R → ∀ x, x ∈ r → x.natAbs ≤ b
theorem Rw.at {n b i : Nat} {R : List (List Int)} (h : Rw n b R) (hi : i < R.length) : (R.getD i []).length = n := by
  rw [List.getD_eq_getElem?_getD, List.getElem?_eq_getElem hi]
  exact h.row _ (List.getElem_mem _)
theorem Rw.mem {n b i : Nat} {R : List (List Int)} (h : Rw n b R) (hi : i < R.length) : ∀ x, x ∈ R.getD i [] → x.natAbs ≤ b := by
  rw [List.getD_eq_getElem?_getD, List.getElem?_eq_getElem hi]
  exact h.bd _ (List.getElem_mem _)
theorem mem_getD {r : List Int} {j : Nat} (h : j < r.length) : r.getD j 0 ∈ r := by
  rw [List.getD_eq_getElem?_getD, List.getElem?_eq_getElem h]
  exact List.getElem_mem _
theorem Rw.ent {n b i j : Nat} {R : List (List Int)} (h : Rw n b R) (hi : i < R.length) (hj : j < n) : (ent R i j).natAbs ≤ b := h.mem hi _ (mem_getD (by rw [h.at hi]; exact hj))
theorem Rw.nil {n b : Nat} : Rw n b [] := ⟨fun _ h => (nomatch h), fun _ h => (nomatch h)⟩
theorem Rw.push {n b : Nat} {R : List (List Int)} (h : Rw n b R) {r : List Int} (h1 : r.length = n) (h2 : ∀ x, x ∈ r → x.natAbs ≤ b) : Rw n b (R ++ [r]) :=
  ⟨fun s hs => (List.mem_append.mp hs).elim (h.row s) fun z => by rw [List.mem_singleton.mp z]; exact h1, fun s hs => (List.mem_append.mp hs).elim (h.bd s) fun z => by rw [List.mem_singleton.mp z]; exact h2⟩
theorem Rw.put {n b i : Nat} {R : List (List Int)} (h : Rw n b R) {r : List Int} (h1 : r.length = n) (h2 : ∀ x, x ∈ r → x.natAbs ≤ b) : Rw n b (R.set i r) :=
  ⟨fun s hs => (List.mem_or_eq_of_mem_set hs).elim (h.row s) fun z => by rw [z]; exact h1, fun s hs => (List.mem_or_eq_of_mem_set hs).elim (h.bd s) fun z => by rw [z]; exact h2⟩
theorem Rw.up {n b c : Nat} {R : List (List Int)} (h : Rw n b R) (k : b ≤ c) : Rw n c R := ⟨h.row, fun r hr x hx => Nat.le_trans (h.bd r hr x hx) k⟩
theorem Rw.sq {n b : Nat} {R : List (List Int)} (h : Rw n b R) (k : R.length = n) : Sq n R := ⟨k, h.row⟩
theorem Rw.small {n b : Nat} {R : List (List Int)} (h : Rw n b R) (k : R.length = n) (hn : n ≤ 8) (hb : b ≤ 2 ^ 60) : Small n R := ⟨h.sq k, hn, fun i j hi hj => Nat.le_trans (h.ent (by omega) hj) hb⟩
/-- without a row and a column -/
def dropCol (r : List Int) (k : Nat) : List Int := r.take k ++ r.drop (k + 1)
theorem dropCol_len {r : List Int} {k : Nat} (h : k < r.length) : (dropCol r k).length = r.length - 1 := by
  simp [dropCol]; omega
theorem dropCol_get {r : List Int} {k : Nat} (h : k < r.length) (j : Nat) : (dropCol r k).getD j 0 = r.getD (skip k j) 0 := by
  unfold dropCol skip
  rw [List.getD_eq_getElem?_getD, List.getElem?_append, List.length_take]
  by_cases c : j < k
  · rw [if_pos (by omega), if_pos c, List.getElem?_take, if_pos c, List.getD_eq_getElem?_getD]
  · rw [if_neg (by omega), if_neg c, List.getElem?_drop, List.getD_eq_getElem?_getD]
    have e : k + 1 + (j - min k r.length) = j + 1 := by omega
    rw [e]
def minorL (R : List (List Int)) (k : Nat) : List (List Int) := (R.drop 1).map fun r => dropCol r k
theorem minorL_ent {n k i : Nat} {R : List (List Int)} (s : Sq (n + 1) R) (hk : k < n + 1) (hi : i < n) (j : Nat) : ent (minorL R k) i j = minor (ent R) k i j := by
  have hl := s.len
  show ((minorL R k).getD i []).getD j 0 = (R.getD (i + 1) []).getD (skip k j) 0
  have e : (minorL R k).getD i [] = dropCol (R.getD (i + 1) []) k := by
    unfold minorL
    rw [List.getD_eq_getElem?_getD, List.getElem?_map, List.getElem?_drop, Nat.add_comm 1 i, List.getElem?_eq_getElem (show i + 1 < R.length by omega), List.getD_eq_getElem?_getD, List.getElem?_eq_getElem (show i + 1 < R.length by omega)]
    rfl
  rw [e, dropCol_get (by rw [s.at (by omega)]; exact hk)]
theorem minorL_small {n k : Nat} {R : List (List Int)} (s : Small (n + 1) R) (hk : k < n + 1) : Small n (minorL R k) := by
  have h1 := s.sq
  have hl := h1.len
  refine ⟨⟨by simp [minorL]; omega, fun r hr => ?_⟩, by have := s.le; omega, fun i j hi hj => ?_⟩
  · obtain ⟨q, hq, rfl⟩ := List.mem_map.mp hr
    have ql := h1.row q (List.mem_of_mem_drop hq)
    rw [dropCol_len (by omega), ql]
    rfl
  · rw [minorL_ent h1 hk hi]
    exact s.bd _ _ (by omega) (skip_lt hj)
end DL

namespace Tr
open PySem L2 DL
def topS (i : Nat) : Stmt := PySem.Challenge.pw_treetally_k04_worths_by_first_rows.main.body.getD i (.Pass ⟨0, 0, 0, 0⟩)
abbrev s_first_row : Stmt := topS 1
theorem sc_first_row : FnScope ["rows", "at", "k"] ["rows", "at"] (defScope s_first_row) := ⟨rfl, rfl, rfl, by decide +kernel, rfl, by decide +kernel, by decide +kernel⟩
abbrev s_swept : Stmt := topS 2
theorem sc_swept : FnScope ["rows", "at", "last", "top", "found", "row", "k"] ["rows", "at", "last"] (defScope s_swept) := ⟨rfl, rfl, rfl, by decide +kernel, rfl, by decide +kernel, by decide +kernel⟩
abbrev s_worth_of : Stmt := topS 3
theorem sc_worth_of : FnScope ["rows", "row", "side", "last", "at", "k"] ["rows"] (defScope s_worth_of) := ⟨rfl, rfl, rfl, by decide +kernel, rfl, by decide +kernel, by decide +kernel⟩
abbrev s__law_cell_at : Stmt := topS 5
theorem sc__law_cell_at : FnScope ["_law_script", "_law_k"] ["_law_script", "_law_k"] (defScope s__law_cell_at) := ⟨rfl, rfl, rfl, by decide +kernel, rfl, by decide +kernel, by decide +kernel⟩
abbrev s__law_mixed : Stmt := topS 6
theorem sc__law_mixed : FnScope ["_law_script", "_law_k"] ["_law_script", "_law_k"] (defScope s__law_mixed) := ⟨rfl, rfl, rfl, by decide +kernel, rfl, by decide +kernel, by decide +kernel⟩
abbrev s__law_number : Stmt := topS 7
theorem sc__law_number : FnScope ["_law_script", "_law_k", "_law_wide", "_law_cell"] ["_law_script", "_law_k", "_law_wide"] (defScope s__law_number) := ⟨rfl, rfl, rfl, by decide +kernel, rfl, by decide +kernel, by decide +kernel⟩
abbrev s__law_rows : Stmt := topS 8
theorem sc__law_rows : FnScope ["_law_script", "_law_first", "_law_size", "_law_wide", "_law_rows_here", "_law_i", "_law_k", "_law_some", "_law_many", "_law_last"] ["_law_script"] (defScope s__law_rows) := ⟨rfl, rfl, rfl, by decide +kernel, rfl, by decide +kernel, by decide +kernel⟩
abbrev s__law_worth : Stmt := topS 9
theorem sc__law_worth : FnScope ["_law_rows_here", "_law_found", "_law_k", "_law_left", "_law_row"] ["_law_rows_here"] (defScope s__law_worth) := ⟨rfl, rfl, rfl, by decide +kernel, rfl, by decide +kernel, by decide +kernel⟩
abbrev s_law : Stmt := topS 10
theorem sc_law : FnScope ["_law_script", "_law_rows_here", "_law_handed", "_law_row", "_law_found"] ["_law_script"] (defScope s_law) := ⟨rfl, rfl, rfl, by decide +kernel, rfl, by decide +kernel, by decide +kernel⟩
structure Tx (K : PySem.W.Frag) (mg : Str → Option Value) where
  cl : XC → Addr
  n_bool : mg "bool" = none
  n_int : mg "int" = none
  n_isinstance : mg "isinstance" = none
  n_len : mg "len" = none
  n_list : mg "list" = none
  n_max : mg "max" = none
  n_min : mg "min" = none
  n_range : mg "range" = none
  a_first_row : Addr
  d_first_row : FuncData
  F_first_row : Fun K "first_row" "first_row" s_first_row a_first_row d_first_row
  g_first_row : mg "first_row" = some (.ref a_first_row)
  b_first_row : Binds K d_first_row ["rows", "at"] []
  a_swept : Addr
  d_swept : FuncData
  F_swept : Fun K "swept" "swept" s_swept a_swept d_swept
  g_swept : mg "swept" = some (.ref a_swept)
  b_swept : Binds K d_swept ["rows", "at", "last"] []
  a_worth_of : Addr
  d_worth_of : FuncData
  F_worth_of : Fun K "worth_of" "worth_of" s_worth_of a_worth_of d_worth_of
  g_worth_of : mg "worth_of" = some (.ref a_worth_of)
  b_worth_of : Binds K d_worth_of ["rows"] []
  a__law_cell_at : Addr
  d__law_cell_at : FuncData
  F__law_cell_at : Fun K "_law_cell_at" "_law_cell_at" s__law_cell_at a__law_cell_at d__law_cell_at
  g__law_cell_at : mg "_law_cell_at" = some (.ref a__law_cell_at)
  b__law_cell_at : Binds K d__law_cell_at ["_law_script", "_law_k"] []
  a__law_mixed : Addr
  d__law_mixed : FuncData
  F__law_mixed : Fun K "_law_mixed" "_law_mixed" s__law_mixed a__law_mixed d__law_mixed
  g__law_mixed : mg "_law_mixed" = some (.ref a__law_mixed)
  b__law_mixed : Binds K d__law_mixed ["_law_script", "_law_k"] []
  a__law_number : Addr
  d__law_number : FuncData
  F__law_number : Fun K "_law_number" "_law_number" s__law_number a__law_number d__law_number
  g__law_number : mg "_law_number" = some (.ref a__law_number)
  b__law_number : Binds K d__law_number ["_law_script", "_law_k", "_law_wide"] []
  a__law_rows : Addr
  d__law_rows : FuncData
  F__law_rows : Fun K "_law_rows" "_law_rows" s__law_rows a__law_rows d__law_rows
  g__law_rows : mg "_law_rows" = some (.ref a__law_rows)
  b__law_rows : Binds K d__law_rows ["_law_script"] []
  a__law_worth : Addr
  d__law_worth : FuncData
  F__law_worth : Fun K "_law_worth" "_law_worth" s__law_worth a__law_worth d__law_worth
  g__law_worth : mg "_law_worth" = some (.ref a__law_worth)
  b__law_worth : Binds K d__law_worth ["_law_rows_here"] []
  a_law : Addr
  d_law : FuncData
  F_law : Fun K "law" "law" s_law a_law d_law
  g_law : mg "law" = some (.ref a_law)
  b_law : Binds K d_law ["_law_script"] []

end Tr

namespace Tr
open PySem L2 DL TT
local macro_rules | `(tactic| walk_at "jv") => `(tactic| first
  | exact jv_c
  | exact jv_var rfl rfl
  | ((with_reducible refine' jv_add ?a ?b); (case a => walk_at "jv"); (case b => walk_at "jv"))
  | ((with_reducible refine' jv_sub ?a ?b); (case a => walk_at "jv"); (case b => walk_at "jv"))
  | ((with_reducible refine' jv_lt ?a ?b); (case a => walk_at "jv"); (case b => walk_at "jv"))
  | ((with_reducible refine' jv_le ?a ?b); (case a => walk_at "jv"); (case b => walk_at "jv"))
  | ((with_reducible refine' jv_gt ?a ?b); (case a => walk_at "jv"); (case b => walk_at "jv"))
  | ((with_reducible refine' jv_ge ?a ?b); (case a => walk_at "jv"); (case b => walk_at "jv"))
  | ((with_reducible refine' jv_eqI ?a ?b); (case a => walk_at "jv"); (case b => walk_at "jv"))
  | ((with_reducible refine' jv_neI ?a ?b); (case a => walk_at "jv"); (case b => walk_at "jv"))
  | ((with_reducible refine' jv_chain ?a ?b ?c); (case a => walk_at "jv"); (case b => walk_at "jv"); (case c => walk_at "jv"))
  | ((with_reducible refine' jv_not ?a); (case a => walk_at "jv"))
  | ((with_reducible refine' jv_len ?a); (case a => walk_at "js"))
  | ((with_reducible refine' jv_lenU ?a); (case a => walk_at "ju"))
  | ((with_reducible refine' jv_min2 ?a ?b); (case a => walk_at "jv"); (case b => walk_at "jv"))
  | ((with_reducible refine' jv_max2 ?a ?b); (case a => walk_at "jv"); (case b => walk_at "jv"))
  | assumption)
local macro_rules | `(tactic| walk_at "js") => `(tactic| first
  | exact js_var rfl
  | exact js_own rfl
  | exact Jd.lowS (js_var rfl)
  | assumption
  | exact Jd.nS (by assumption))
local macro_rules | `(tactic| walk_at "ju") => `(tactic| first
  | exact ju_var rfl
  | assumption)
local macro_rules | `(tactic| walk_at "jd") => `(tactic| first
  | exact jd_var rfl
  | exact Jd.low (jd_var rfl)
  | exact Jd.low (by assumption)
  | assumption
  | ((refine' Jd.int (Jd.eqV ?a ?b)); (case a => walk_at "jv"); (case b => first | rfl | (congr 1; omega)))
  | ((refine' Jd.bool ?a); (case a => walk_at "jv")))
local macro_rules | `(tactic| walk_at "jf") => `(tactic| first
  | exact jf_nil
  | ((with_reducible refine' jf_cons ?a ?b); (case a => walk_at "jd"); (case b => walk_at "jf")))
local macro_rules | `(tactic| walk_at "less") => `(tactic| first
  | exact LessI.nil
  | (refine LessI.keep ?_; walk_at "less")
  | (refine LessI.drop ?_; walk_at "less"))
local macro_rules | `(tactic| walk_at "loop") => `(tactic| (refine' run_loopW ?x ?y; (case x => exact rfl); (case y => walk_at "less")))

section
variable {P : Program} {w : World} {K : PySem.W.Frag} {mg : Str → Option Value} {base : Heap}

def preFirst (ds : List D) : Prop := ∃ (n a : Nat) (R : List (List Int)), ds = [rowsD R, natD a] ∧ Sq n R ∧ n ≤ 8 ∧ a < n
def postFirst (ds : List D) (out : Out) : Prop := ∃ (n a : Nat) (R : List (List Int)), ds = [rowsD R, natD a] ∧ Sq n R ∧
  ((out = .val .none ∧ ∀ i, a ≤ i → i < n → ent R i a = 0) ∨ ∃ k, a ≤ k ∧ k < n ∧ ent R k a ≠ 0 ∧ out = .val (natD k))
theorem ok_first_row (T : Tx K mg) : FnOk P w K mg base (L2.CX P w) 1 T.a_first_row T.d_first_row ["rows", "at"] (spD K T.cl [false, false] true preFirst postFirst) := by
  refine fnD T.F_first_row sc_first_row rfl fun cdv A outer s E M B H Q ds hr hp wf ho => ?_
  obtain ⟨n, a, R, rfl, sq, n8, han⟩ := hp
  refine ⟨_, (pss_cons (PS.nox (ps_for PassesOwn.never rfl (pi_range2 (by rfl) T.n_range (pa_cons (pv 1) (pa_cons (pe_callB (len_K K rfl) (by rfl) T.n_len (by decide +kernel) (pa_cons (pv 0) pa_nil)) pa_nil))) (pg_name (i := 2) sc_first_row.nd rfl (Or.inl rfl))
      (pss_one (ps_if (pt_cmpR (op_neK K rfl hr.units) (pe_ix (ix_K K rfl) (pe_ix (ix_K K rfl) (pv 0) (pv 2) (fun _ _ => rfl)) (pv 1) (fun _ _ => rfl)) pe_int (nomark _))
      (pss_one (ps_ret (pv 2))) pss_nil))))
      (pss_one (ps_ret pe_non))), ?_⟩
  refine run_forR2 (a := (a : Int)) (k := (n : Int)) (fun j env => env = [.val false (rowsD R), .val false (natD a), .un] ∧ ∀ i, a ≤ i → i < a + j → ent R i a = 0) (jv_var rfl rfl) ?_ (by omega) (by omega) (by omega) (by omega) ⟨rfl, fun i h1 h2 => by omega⟩ (fun j env1 hj i1 => ?_) (fun env1 i1 => ?_)
  · refine (jv_len (js_var rfl)).eqV ?_
    rw [List.length_map, sq.len]
  · have hj' : a + j < n := by omega
    rw [i1.1]
    show Run _ _ _ [.val false (rowsD R), .val false (natD a), .val true (natD (a + j))]
    · refine run_one (run_if (b := !decide (ent R (a + j) a = 0)) ?_ (fun e => ?_) (fun e => ?_))
      case refine_1 =>
        have h1 : JD K (tOp (rIx K) (tVar 0) (tVar 2)) [.val false (rowsD R), .val false (natD a), .val true (natD (a + j))] false (rowD (R.getD (a + j) [])) := jd_ixE (a + j) [] (js_var rfl) (jv_var rfl rfl) rfl (by rw [sq.len]; exact hj')
        have h2 : JD K (tOp (rIx K) (tOp (rIx K) (tVar 0) (tVar 2)) (tVar 1)) [.val false (rowsD R), .val false (natD a), .val true (natD (a + j))] false (.int ((R.getD (a + j) []).getD a 0)) := jd_ixE (enc := PyData.int) a 0 h1.dS (jv_var rfl rfl) rfl (by rw [sq.at hj']; exact han)
        exact jt_test (jv_neI (h2.toV rfl) jv_c)
      · refine run_retSeq (run_ret (n := true) (jd_var rfl) (ho (.val (natD (a + j))) ⟨n, a, R, rfl, sq, .inr ⟨a + j, by omega, hj', by simpa using e, rfl⟩⟩))
      · refine run_next (run_loopW ⟨rfl, fun i h1 h2 => ?_⟩ (by walk_at "less"))
        by_cases z : i = a + j
        · rw [z]; simpa using e
        · exact i1.2 i h1 (by omega)
  · have e : a + ((n : Int) - (a : Int)).toNat = n := by omega
    have all := i1.2
    rw [e] at all
    rw [i1.1]
    refine run_ret (n := true) (Jd.ofV (d := .none) jv_c rfl) (ho (.val .none) ⟨n, a, R, rfl, sq, .inl ⟨rfl, all⟩⟩)

end
end Tr

namespace Tr
open PySem L2 DL TT
local macro_rules | `(tactic| walk_at "jv") => `(tactic| first
  | exact jv_c
  | exact jv_var rfl rfl
  | ((with_reducible refine' jv_add ?a ?b); (case a => walk_at "jv"); (case b => walk_at "jv"))
  | ((with_reducible refine' jv_sub ?a ?b); (case a => walk_at "jv"); (case b => walk_at "jv"))
  | ((with_reducible refine' jv_lt ?a ?b); (case a => walk_at "jv"); (case b => walk_at "jv"))
  | ((with_reducible refine' jv_le ?a ?b); (case a => walk_at "jv"); (case b => walk_at "jv"))
  | ((with_reducible refine' jv_gt ?a ?b); (case a => walk_at "jv"); (case b => walk_at "jv"))
  | ((with_reducible refine' jv_ge ?a ?b); (case a => walk_at "jv"); (case b => walk_at "jv"))
  | ((with_reducible refine' jv_eqI ?a ?b); (case a => walk_at "jv"); (case b => walk_at "jv"))
  | ((with_reducible refine' jv_neI ?a ?b); (case a => walk_at "jv"); (case b => walk_at "jv"))
  | ((with_reducible refine' jv_chain ?a ?b ?c); (case a => walk_at "jv"); (case b => walk_at "jv"); (case c => walk_at "jv"))
  | ((with_reducible refine' jv_not ?a); (case a => walk_at "jv"))
  | ((with_reducible refine' jv_len ?a); (case a => walk_at "js"))
  | ((with_reducible refine' jv_lenU ?a); (case a => walk_at "ju"))
  | ((with_reducible refine' jv_min2 ?a ?b); (case a => walk_at "jv"); (case b => walk_at "jv"))
  | ((with_reducible refine' jv_max2 ?a ?b); (case a => walk_at "jv"); (case b => walk_at "jv"))
  | assumption)
local macro_rules | `(tactic| walk_at "js") => `(tactic| first
  | exact js_var rfl
  | exact js_own rfl
  | exact Jd.lowS (js_var rfl)
  | assumption
  | exact Jd.nS (by assumption))
local macro_rules | `(tactic| walk_at "ju") => `(tactic| first
  | exact ju_var rfl
  | assumption)
local macro_rules | `(tactic| walk_at "jd") => `(tactic| first
  | exact jd_var rfl
  | exact Jd.low (jd_var rfl)
  | exact Jd.low (by assumption)
  | assumption
  | ((refine' Jd.int (Jd.eqV ?a ?b)); (case a => walk_at "jv"); (case b => first | rfl | (congr 1; omega)))
  | ((refine' Jd.bool ?a); (case a => walk_at "jv")))
local macro_rules | `(tactic| walk_at "jf") => `(tactic| first
  | exact jf_nil
  | ((with_reducible refine' jf_cons ?a ?b); (case a => walk_at "jd"); (case b => walk_at "jf")))
local macro_rules | `(tactic| walk_at "less") => `(tactic| first
  | exact LessI.nil
  | (refine LessI.keep ?_; walk_at "less")
  | (refine LessI.drop ?_; walk_at "less"))
local macro_rules | `(tactic| walk_at "loop") => `(tactic| (refine' run_loopW ?x ?y; (case x => exact rfl); (case y => walk_at "less")))

section
variable {P : Program} {w : World} {K : PySem.W.Frag} {mg : Str → Option Value} {base : Heap}

def preSwept (ds : List D) : Prop := ∃ (n a : Nat) (R : List (List Int)) (last : Int), ds = [rowsD R, natD a, .int last] ∧ Sq n R ∧ n ≤ 8 ∧ a < n ∧ last ≠ 0 ∧ last.natAbs ≤ 2 ^ 504 ∧ ∀ i j, a ≤ i → i < n → j < n → (ent R i j).natAbs ≤ 2 ^ 504
def postSwept (ds : List D) (out : Out) : Prop := ∃ (a : Nat) (R : List (List Int)) (last : Int), ds = [rowsD R, natD a, .int last] ∧ out = .new ((sweptL R a last).map rowD)
theorem ok_swept (T : Tx K mg) : FnOk P w K mg base (L2.CX P w) 1 T.a_swept T.d_swept ["rows", "at", "last"] (spD K T.cl [true, false, false] true preSwept postSwept) := by
  refine fnD T.F_swept sc_swept rfl fun cdv A outer s E M B H Q ds hr hp wf ho => ?_
  obtain ⟨n, a, R, last, rfl, sq, n8, han, l0, lb, rb⟩ := hp
  refine ⟨_, (pss_cons (ps_set (i := 3) sc_swept.nd rfl (Or.inr rfl) (pe_ix (ix_K K rfl) (pv 0) (pv 1) (fun _ _ => rfl)))
      (pss_cons (ps_set (i := 4) sc_swept.nd rfl (Or.inl rfl) (pe_lst pa_nil))
      (pss_cons (PS.nox (ps_for PassesOwn.never rfl (list_pi K rfl (pe_slice (sl_K K rfl) (pv 0) (po_some (pe_op op_addD (pv 1) pe_int)) po_none)) (pg_name (i := 5) sc_swept.nd rfl (Or.inr rfl))
      (pss_one (ps_expr (bm_K K rfl PySem.F.plainAttrs_list PySem.F.slot_list_append PySem.F.type_list_append mt_append (pv 4) (pa_cons (pe_lc (own := [("k", 6)]) rfl sc_swept.nd (pi_range1 (by rfl) T.n_range (pa_cons (pe_callB (len_K K rfl) (by rfl) T.n_len (by decide +kernel) (pa_cons (pv 5) pa_nil)) pa_nil)) (blkOk_by (own := [("k", 6)]) (N := ["rows", "at", "last", "top", "found", "row", "k"]) (sc := defScope s_swept) (by decide +kernel)) (fun _ _ _ _ _ => (pg_name (i := 6) sc_swept.nd rfl (Or.inl rfl))) (fun _ _ _ _ _ => pts_nil) (fun _ _ _ _ _ => (pe_op op_fdivA (pe_op op_sub (pe_op op_mulD (pe_ix (ix_K K rfl) (pv 5) (pv 6) (fun _ _ => rfl)) (pe_ix (ix_K K rfl) (pv 3) (pv 1) (fun _ _ => rfl))) (pe_op op_mulD (pe_ix (ix_K K rfl) (pv 5) (pv 1) (fun _ _ => rfl)) (pe_ix (ix_K K rfl) (pv 3) (pv 6) (fun _ _ => rfl)))) (pv 2)))) pa_nil))))))
      (pss_one (ps_ret (pe_op op_addD (pe_slice (sl_K K rfl) (pv 0) po_none (po_some (pe_op op_addD (pv 1) pe_int))) (pv 4))))))), ?_⟩
  have hl := sq.len
  have ret := ho (.new ((sweptL R a last).map rowD)) ⟨a, R, last, rfl, rfl⟩
  refine run_set (n := true) (d := rowD (R.getD a [])) (jd_ixE a [] (js_var rfl) (jv_var rfl rfl) rfl (by omega)) ?_
  refine run_setN (n := true) (ds := []) (jn_lst ja_nil (Nat.zero_le _)) ?_
  have sl : JN K (tSl (rSlL K) (tVar 0) (tPart (tOp rAddD (tVar 1) (tC (.int 1)))) tNoPart) [.val true (rowsD R), .val false (natD a), .val false (.int last), .val true (rowD (R.getD a [])), .own true [], .un, .un] true ((R.drop (a + 1)).map rowD) := by
    refine (jn_slice (js_var rfl) (jo_some (jv_add (jv_var rfl rfl) jv_c)) jo_none).eqN ?_
    rw [cutG_map]
    congr 1
    exact cutG_from R (a + 1)
  refine run_forL (enc := rowD) (R.drop (a + 1)) (fun k env => env = [.val true (rowsD R), .val false (natD a), .val false (.int last), .val true (rowD (R.getD a [])), .own true ((((R.drop (a + 1)).take k).map fun row => sweptRow (R.getD a []) row a last).map rowD), .un, .un]) sl.nD rfl (fun hb k x env1 hx e1 => ?_) (fun env1 e1 => ?_)
  · subst e1
    refine ⟨_, _, tg_name, ?_⟩
    have hk : k < (R.drop (a + 1)).length := (List.getElem?_eq_some_iff.mp hx).1
    have hk' : a + 1 + k < n := by rw [List.length_drop] at hk; omega
    have ex : x = R.getD (a + 1 + k) [] := by
      rw [List.getElem?_drop] at hx
      rw [List.getD_eq_getElem?_getD, hx]; rfl
    have xl : x.length = n := by rw [ex]; exact sq.at hk'
    have tl : (R.getD a []).length = n := sq.at han
    have bx : ∀ j, j < n → (x.getD j 0).natAbs ≤ 2 ^ 504 := fun j hj => by rw [ex]; exact rb _ j (by omega) hk' hj
    have bt : ∀ j, j < n → ((R.getD a []).getD j 0).natAbs ≤ 2 ^ 504 := fun j hj => rb _ j (by omega) han hj
    refine run_one (run_appendE rfl (d := rowD (sweptRow (R.getD a []) x a last)) ?_ ?_ (by walk_at "loop") ?_)
    · refine ((jn_mapR (k := (n : Int)) (fun j => .int ((x.getD j 0 * (R.getD a []).getD a 0 - x.getD a 0 * (R.getD a []).getD j 0).fdiv last)) ((jv_len (js_var rfl)).eqV (by rw [List.length_map, xl])) (by omega) (by omega) fun j hj => ⟨_, tg_name, ?_⟩).eqN ?_).nD
      · have hj' : j < n := by omega
        have g1 : ∀ env, env[5]? = some (.val true (rowD x)) → env[6]? = some (.val true (natD j)) → JV K (tOp (rIx K) (tVar 5) (tVar 6)) env (.int (x.getD j 0)) := fun env a b => (jd_ixE (enc := PyData.int) j 0 (js_var a) (jv_var b rfl) rfl (by omega)).toV rfl
        have g2 : ∀ env, env[5]? = some (.val true (rowD x)) → env[1]? = some (.val false (natD a)) → JV K (tOp (rIx K) (tVar 5) (tVar 1)) env (.int (x.getD a 0)) := fun env p b => (jd_ixE (enc := PyData.int) a 0 (js_var p) (jv_var b rfl) rfl (by omega)).toV rfl
        have g3 : ∀ env, env[3]? = some (.val true (rowD (R.getD a []))) → env[1]? = some (.val false (natD a)) → JV K (tOp (rIx K) (tVar 3) (tVar 1)) env (.int ((R.getD a []).getD a 0)) := fun env p b => (jd_ixE (enc := PyData.int) a 0 (js_var p) (jv_var b rfl) rfl (by omega)).toV rfl
        have g4 : ∀ env, env[3]? = some (.val true (rowD (R.getD a []))) → env[6]? = some (.val true (natD j)) → JV K (tOp (rIx K) (tVar 3) (tVar 6)) env (.int ((R.getD a []).getD j 0)) := fun env p b => (jd_ixE (enc := PyData.int) j 0 (js_var p) (jv_var b rfl) rfl (by omega)).toV rfl
        refine Jd.int (jv_fdiv (jv_sub (jv_mulW (g1 _ rfl rfl) (g3 _ rfl rfl) (cmul504 (bx j hj') (bt a han))) (jv_mulW (g2 _ rfl rfl) (g4 _ rfl rfl) (cmul504 (bx a han) (bt j hj')))) (jv_var rfl rfl) (cdiv504 l0 lb))
      · rw [Int.toNat_natCast]
        unfold sweptRow
        rw [List.map_map, xl]
        rfl
    · rw [List.length_map, List.length_map, List.length_take]
      rw [List.length_drop] at hk ⊢
      omega
    · rw [List.take_add_one, hx, List.map_append, List.map_append]
      rfl
  · subst e1
    rw [List.take_length]
    refine run_retN ((jn_cat (n := true) (ds := (R.take (a + 1)).map rowD) ?_ (js_own rfl) ?_).eqN ?_) ret
    · refine ((jn_slice (js_var rfl) jo_none (jo_some (jv_add (jv_var rfl rfl) jv_c))).eqN ?_).nS
      rw [cutG_map]
      congr 1
      exact cutG_to R (a + 1)
    · simp only [List.length_map, List.length_take, List.length_drop]
      omega
    · rw [← List.map_append]
      rfl

end
end Tr

namespace Tr
open PySem L2 DL TT
local macro_rules | `(tactic| walk_at "jv") => `(tactic| first
  | exact jv_c
  | exact jv_var rfl rfl
  | ((with_reducible refine' jv_add ?a ?b); (case a => walk_at "jv"); (case b => walk_at "jv"))
  | ((with_reducible refine' jv_sub ?a ?b); (case a => walk_at "jv"); (case b => walk_at "jv"))
  | ((with_reducible refine' jv_lt ?a ?b); (case a => walk_at "jv"); (case b => walk_at "jv"))
  | ((with_reducible refine' jv_le ?a ?b); (case a => walk_at "jv"); (case b => walk_at "jv"))
  | ((with_reducible refine' jv_gt ?a ?b); (case a => walk_at "jv"); (case b => walk_at "jv"))
  | ((with_reducible refine' jv_ge ?a ?b); (case a => walk_at "jv"); (case b => walk_at "jv"))
  | ((with_reducible refine' jv_eqI ?a ?b); (case a => walk_at "jv"); (case b => walk_at "jv"))
  | ((with_reducible refine' jv_neI ?a ?b); (case a => walk_at "jv"); (case b => walk_at "jv"))
  | ((with_reducible refine' jv_chain ?a ?b ?c); (case a => walk_at "jv"); (case b => walk_at "jv"); (case c => walk_at "jv"))
  | ((with_reducible refine' jv_not ?a); (case a => walk_at "jv"))
  | ((with_reducible refine' jv_len ?a); (case a => walk_at "js"))
  | ((with_reducible refine' jv_lenU ?a); (case a => walk_at "ju"))
  | ((with_reducible refine' jv_min2 ?a ?b); (case a => walk_at "jv"); (case b => walk_at "jv"))
  | ((with_reducible refine' jv_max2 ?a ?b); (case a => walk_at "jv"); (case b => walk_at "jv"))
  | assumption)
local macro_rules | `(tactic| walk_at "js") => `(tactic| first
  | exact js_var rfl
  | exact js_own rfl
  | exact Jd.lowS (js_var rfl)
  | assumption
  | exact Jd.nS (by assumption))
local macro_rules | `(tactic| walk_at "ju") => `(tactic| first
  | exact ju_var rfl
  | assumption)
local macro_rules | `(tactic| walk_at "jd") => `(tactic| first
  | exact jd_var rfl
  | exact Jd.low (jd_var rfl)
  | exact Jd.low (by assumption)
  | assumption
  | ((refine' Jd.int (Jd.eqV ?a ?b)); (case a => walk_at "jv"); (case b => first | rfl | (congr 1; omega)))
  | ((refine' Jd.bool ?a); (case a => walk_at "jv")))
local macro_rules | `(tactic| walk_at "jf") => `(tactic| first
  | exact jf_nil
  | ((with_reducible refine' jf_cons ?a ?b); (case a => walk_at "jd"); (case b => walk_at "jf")))
local macro_rules | `(tactic| walk_at "less") => `(tactic| first
  | exact LessI.nil
  | (refine LessI.keep ?_; walk_at "less")
  | (refine LessI.drop ?_; walk_at "less"))
local macro_rules | `(tactic| walk_at "loop") => `(tactic| (refine' run_loopW ?x ?y; (case x => exact rfl); (case y => walk_at "less")))

section
variable {P : Program} {w : World} {K : PySem.W.Frag} {mg : Str → Option Value} {base : Heap}

def preWorth (ds : List D) : Prop := ∃ (n : Nat) (R : List (List Int)), ds = [rowsD R] ∧ Small n R
def postWorth (ds : List D) (out : Out) : Prop := ∃ (n : Nat) (R : List (List Int)), ds = [rowsD R] ∧ Small n R ∧ out = .val (.int (det n (ent R)))
def envW (R : List (List Int)) (side last : Int) (a b : Sl) : List Sl := [.val true (rowsD R), .un, .val true (.int side), .val true (.int last), a, b]
theorem swap_JD {R : List (List Int)} {n a k : Nat} (sq : Sq n R) (n8 : n ≤ 8) (h1 : a < k) (h2 : k < n) {side last : Int} :
    JD K (tOp rAddD (tOp rAddD (tOp rAddD (tOp rAddD (tSl (rSlL K) (tVar 0) tNoPart (tPart (tVar 4))) (tLst (tCons (tOp (rIx K) (tVar 0) (tVar 5)) tNil))) (tSl (rSlL K) (tVar 0) (tPart (tOp rAddD (tVar 4) (tC (.int 1)))) (tPart (tVar 5)))) (tLst (tCons (tOp (rIx K) (tVar 0) (tVar 4)) tNil))) (tSl (rSlL K) (tVar 0) (tPart (tOp rAddD (tVar 5) (tC (.int 1)))) tNoPart))
      (envW R side last (.val true (natD a)) (.val true (natD k))) true (rowsD (swapL R a k)) := by
  have hl := sq.len
  have s1 : JS K (tSl (rSlL K) (tVar 0) tNoPart (tPart (tVar 4))) (envW R side last (.val true (natD a)) (.val true (natD k))) true ((R.take a).map rowD) := by
    refine ((jn_slice (js_var rfl) jo_none (jo_some (jv_var rfl rfl))).eqN ?_).nS
    rw [cutG_map]
    congr 1
    exact cutG_to R a
  have s2 : JS K (tLst (tCons (tOp (rIx K) (tVar 0) (tVar 5)) tNil)) (envW R side last (.val true (natD a)) (.val true (natD k))) true ([R.getD k []].map rowD) := by
    refine (jn_lst (ja_cons (jd_ixE k [] (js_var rfl) (jv_var rfl rfl) rfl (by omega)) ja_nil) (by simp)).nS
  have s3 : JS K (tSl (rSlL K) (tVar 0) (tPart (tOp rAddD (tVar 4) (tC (.int 1)))) (tPart (tVar 5))) (envW R side last (.val true (natD a)) (.val true (natD k))) true (((R.drop (a + 1)).take (k - (a + 1))).map rowD) := by
    refine ((jn_slice (js_var rfl) (jo_some (jv_add (jv_var rfl rfl) jv_c)) (jo_some (jv_var rfl rfl))).eqN ?_).nS
    rw [cutG_map]
    congr 1
    exact cutG_mid R (a + 1) k (by omega)
  have s4 : JS K (tLst (tCons (tOp (rIx K) (tVar 0) (tVar 4)) tNil)) (envW R side last (.val true (natD a)) (.val true (natD k))) true ([R.getD a []].map rowD) := by
    refine (jn_lst (ja_cons (jd_ixE a [] (js_var rfl) (jv_var rfl rfl) rfl (by omega)) ja_nil) (by simp)).nS
  have s5 : JS K (tSl (rSlL K) (tVar 0) (tPart (tOp rAddD (tVar 5) (tC (.int 1)))) tNoPart) (envW R side last (.val true (natD a)) (.val true (natD k))) true ((R.drop (k + 1)).map rowD) := by
    refine ((jn_slice (js_var rfl) (jo_some (jv_add (jv_var rfl rfl) jv_c)) jo_none).eqN ?_).nS
    rw [cutG_map]
    congr 1
    exact cutG_from R (k + 1)
  have z : ∀ j, (R.take j).length ≤ 8 := fun j => by rw [List.length_take]; omega
  refine ((jn_cat (jn_cat (jn_cat (jn_cat s1 s2 ?_).nS s3 ?_).nS s4 ?_).nS s5 ?_).eqN ?_).nD
  iterate 4 (simp only [List.length_append, List.length_map, List.length_take, List.length_drop, List.length_cons, List.length_nil]; omega)
  · rw [← List.map_append, ← List.map_append, ← List.map_append, ← List.map_append]
    rfl
theorem ok_worth_of (T : Tx K mg) : FnOk P w K mg base (L2.CX P w) 2 T.a_worth_of T.d_worth_of ["rows"] (spD K T.cl [false] true preWorth postWorth) := by
  refine fnD T.F_worth_of sc_worth_of rfl fun cdv A outer s E M B H Q ds hr hp wf ho => ?_
  obtain ⟨n, R, rfl, sm⟩ := hp
  refine ⟨_, (pss_cons (ps_setLc (i := 0) (own := [("row", 1)]) rfl sc_worth_of.nd rfl rfl (sw_true rfl rfl rfl (by decide +kernel)) (list_pi K rfl (pv 0)) (blkOk_by (own := [("row", 1)]) (N := ["rows", "row", "side", "last", "at", "k"]) (sc := defScope s_worth_of) (by decide +kernel)) (fun _ _ _ _ _ => (pg_name (i := 1) sc_worth_of.nd rfl (Or.inl rfl))) (fun _ _ _ _ _ => pts_nil) (fun _ _ _ _ _ => (pe_callTy (list_K K rfl) (by rfl) T.n_list (by decide +kernel) (pa_cons (pv 1) pa_nil))))
      (pss_cons (ps_set (i := 2) sc_worth_of.nd rfl (Or.inl rfl) pe_int)
      (pss_cons (ps_set (i := 3) sc_worth_of.nd rfl (Or.inl rfl) pe_int)
      (pss_cons (PS.nox (ps_for PassesOwn.never rfl (pi_range1 (by rfl) T.n_range (pa_cons (pe_callB (len_K K rfl) (by rfl) T.n_len (by decide +kernel) (pa_cons (pv 0) pa_nil)) pa_nil)) (pg_name (i := 4) sc_worth_of.nd rfl (Or.inl rfl))
      (pss_cons (ps_set (i := 5) sc_worth_of.nd rfl (Or.inl rfl) (pe_call (ok_first_row T) (hr.mono (by decide)) (by rfl) T.g_first_row T.F_first_row.kp T.b_first_row .nil passL (pa_cons (pv 0) (pa_cons (pv 4) pa_nil))))
      (pss_cons (ps_if (pt_cmp (pc_isN (pv 5)) rfl)
      (pss_one (ps_ret pe_int)) pss_nil)
      (pss_cons (ps_if (pt_cmpR (op_neK K rfl hr.units) (pv 5) (pv 4) (nomark _))
      (pss_cons (ps_set (i := 0) sc_worth_of.nd rfl (Or.inl rfl) (pe_op op_addD (pe_op op_addD (pe_op op_addD (pe_op op_addD (pe_slice (sl_K K rfl) (pv 0) po_none (po_some (pv 4))) (pe_lst (pa_cons (pe_ix (ix_K K rfl) (pv 0) (pv 5) (fun _ _ => rfl)) pa_nil))) (pe_slice (sl_K K rfl) (pv 0) (po_some (pe_op op_addD (pv 4) pe_int)) (po_some (pv 5)))) (pe_lst (pa_cons (pe_ix (ix_K K rfl) (pv 0) (pv 4) (fun _ _ => rfl)) pa_nil))) (pe_slice (sl_K K rfl) (pv 0) (po_some (pe_op op_addD (pv 5) pe_int)) po_none)))
      (pss_one (ps_set (i := 2) sc_worth_of.nd rfl (Or.inl rfl) (pe_un un_neg (pv 2))))) pss_nil)
      (pss_cons (ps_set (i := 0) sc_worth_of.nd rfl (Or.inl rfl) (pe_call (ok_swept T) (hr.mono (by decide)) (by rfl) T.g_swept T.F_swept.kp T.b_swept .nil passL (pa_cons (pv 0) (pa_cons (pv 4) (pa_cons (pv 3) pa_nil)))))
      (pss_one (ps_set (i := 3) sc_worth_of.nd rfl (Or.inl rfl) (pe_ix (ix_K K rfl) (pe_ix (ix_K K rfl) (pv 0) (pv 4) (fun _ _ => rfl)) (pv 4) (fun _ _ => rfl))))))))))
      (pss_one (ps_ret (pe_op op_mulD (pv 2) (pv 3)))))))), ?_⟩
  have ret : ∀ z : Int, z = det n (ent R) → OutOk K T.cl M B true H Q E (.val (.int z)) := fun z e => by
    rw [e]
    exact ho _ ⟨n, R, rfl, sm, rfl⟩
  have n8 := sm.le
  refine run_set (n := true) (d := rowsD R) ((jn_mapL (enc := rowD) R rowD (js_var rfl) (by have := sm.sq.len; omega) fun x hx => ⟨_, tg_name, (Jd.intsN (jn_list (js_var rfl))).nD.eqD rfl⟩).nD) ?_
  refine run_setI jv_c ?_
  refine run_setI jv_c ?_
  refine run_forR (k := (n : Int)) (fun j env => ∃ R' side last, env = envW R' side last .un .un ∧ Sq n R' ∧ (side = 1 ∨ side = -1) ∧ BInv n j (ent R) (ent R') side last) ?_ (by omega) (by omega) ⟨R, 1, 1, rfl, sm.sq, .inl rfl, .start n _⟩ (fun j env1 hj i1 => ?_) (fun env1 i1 => ?_)
  · refine (jv_len (js_var rfl)).eqV ?_
    rw [List.length_map, sm.sq.len]
  · obtain ⟨R', side, last, rfl, sq, hs, bi⟩ := i1
    have hj' : j < n := by omega
    refine run_setP (n := true) (jd_callP (p := fun d => (d = .none ∧ ∀ i, j ≤ i → i < n → ent R' i j = 0) ∨ ∃ k, j ≤ k ∧ k < n ∧ ent R' k j ≠ 0 ∧ d = natD k) (by walk_at "jf") ⟨n, j, R', rfl, sq, n8, hj'⟩ fun out po => ?_) fun d hd => ?_
    · obtain ⟨n', a', R'', e, sq', po⟩ := po
      obtain ⟨e1, e2⟩ := one_cons e
      obtain rfl := rowsD_inj e1
      obtain rfl := natD_inj (one_cons e2).1
      obtain rfl := sq_uniq sq sq'
      rcases po with ⟨rfl, hz⟩ | ⟨k, k1, k2, k3, rfl⟩
      · exact ⟨_, .inl ⟨rfl, hz⟩, .inl rfl⟩
      · exact ⟨_, .inr ⟨k, k1, k2, k3, rfl⟩, .inl rfl⟩
    · rcases hd with ⟨rfl, hz⟩ | ⟨k, k1, k2, k3, rfl⟩
      · refine run_if (b := true) (jt_B ((jv_isN (jv_var rfl rfl)).eqV rfl)) (fun _ => ?_) (fun e => nomatch e)
        exact run_retSeq (run_retV jv_c rfl (ret 0 (bi.none hj' hz).symm))
      · refine run_if (b := false) (jt_B ((jv_isN (v := .int (k : Int)) (jv_var rfl rfl)).eqV rfl)) (fun e => nomatch e) (fun _ => run_next ?_)
        have neg1 : side = 1 ∨ side = -1 → -side = 1 ∨ -side = -1 := fun z => by omega
        refine run_ifJ (b := !decide ((k : Int) = (j : Int))) (fun env' => ∃ R1 s1, env' = envW R1 s1 last (.val true (natD j)) (.val true (natD k)) ∧ Sq n R1 ∧ (s1 = 1 ∨ s1 = -1) ∧ BInv n j (ent R) (ent R1) s1 last ∧ ent R1 j j ≠ 0) (jt_test (jv_neI (jv_var rfl rfl) (jv_var rfl rfl))) (fun env' ⟨R1, s1, e1, sq1, hs1, b1, piv⟩ => ?_) (fun go c => ?_) (fun go c => ?_)
        · subst e1
          have nb : ∀ i j', j ≤ i → i < n → j' < n → (ent R1 i j').natAbs ≤ 2 ^ 504 := fun i j' x y z => b1.big sm hj' x y z
          refine run_set (n := true) (d := rowsD (sweptL R1 j last)) (jd_call (by walk_at "jf") ⟨n, j, R1, last, rfl, sq1, n8, hj', b1.ne, b1.lastBig sm (by omega), nb⟩ fun out ⟨a', R2, l2, e, po⟩ => ?_) ?_
          · obtain ⟨e1, e2⟩ := one_cons e
            obtain ⟨e2, e3⟩ := one_cons e2
            obtain rfl := rowsD_inj e1
            obtain rfl := natD_inj e2
            obtain rfl := PyData.int.inj (one_cons e3).1
            exact .inr ⟨_, rfl, po⟩
          · have sq2 := sweptL_sq (last := last) sq1 hj'
            have low : ent (sweptL R1 j last) j j = ent R1 j j := by
              show ((sweptL R1 j last).getD j []).getD j 0 = _
              rw [sweptL_low sq1 hj' (Nat.le_refl j)]
              rfl
            have h1 : JD K (tOp (rIx K) (tVar 0) (tVar 4)) (envW (sweptL R1 j last) s1 last (.val true (natD j)) (.val true (natD k))) true (rowD ((sweptL R1 j last).getD j [])) := jd_ixE j [] (js_var rfl) (jv_var rfl rfl) rfl (by rw [sq2.len]; exact hj')
            have h2 : JD K (tOp (rIx K) (tOp (rIx K) (tVar 0) (tVar 4)) (tVar 4)) (envW (sweptL R1 j last) s1 last (.val true (natD j)) (.val true (natD k))) true (.int (ent R1 j j)) := (jd_ixE (enc := PyData.int) j 0 h1.dS (jv_var rfl rfl) rfl (by rw [sq2.at hj']; exact hj')).eqD (congrArg PyData.int low)
            refine run_one (run_setI (h2.toV rfl) (run_loopW (env' := envW (sweptL R1 j last) s1 (ent R1 j j) .un .un) ⟨_, _, _, rfl, sq2, hs1, ?_⟩ (by walk_at "less")))
            exact b1.sweep hj' piv fun i j' x y z => sweptL_ent sq1 hj' x y z
        · have c' : k ≠ j := fun z => by rw [z] at c; simp at c
          refine run_assoc (run_set (swap_JD sq n8 (by omega) k2) (run_setI (jv_U (jv_var rfl rfl)) (go _ ⟨_, _, rfl, swapL_sq sq (by omega) k2, neg1 hs, ?_, ?_⟩)))
          · exact (bi.swap k1 k2 c').congr (by omega) fun i j' hi _ => swapL_ent sq (by omega) k2 hi j'
          · rw [swapL_ent sq (by omega) k2 hj' j]
            show ent R' (if j = j then k else _) j ≠ 0
            rw [if_pos rfl]
            exact k3
        · have c' : k = j := by simp at c; omega
          subst c'
          exact run_next (go _ ⟨_, _, rfl, sq, hs, bi, k3⟩)
  · obtain ⟨R', side, last, rfl, sq, hs, bi⟩ := i1
    refine run_retV (v := .int (side * last)) (n := true) (d := .int (side * last)) (jv_mulW (jv_var rfl rfl) (jv_var rfl rfl) ?_) rfl (ret _ bi.fin)
    have l1 := bi.lastBig sm (by omega)
    have hs' : side.natAbs ≤ 2 ^ 504 := by
      have p1 : 1 ≤ 2 ^ 504 := Nat.one_le_two_pow
      rcases hs with rfl | rfl <;> exact p1
    exact cmul504 hs' l1

end
end Tr

namespace Tr
open PySem L2 DL TT
local macro_rules | `(tactic| walk_at "jv") => `(tactic| first
  | exact jv_c
  | exact jv_var rfl rfl
  | ((with_reducible refine' jv_add ?a ?b); (case a => walk_at "jv"); (case b => walk_at "jv"))
  | ((with_reducible refine' jv_sub ?a ?b); (case a => walk_at "jv"); (case b => walk_at "jv"))
  | ((with_reducible refine' jv_lt ?a ?b); (case a => walk_at "jv"); (case b => walk_at "jv"))
  | ((with_reducible refine' jv_le ?a ?b); (case a => walk_at "jv"); (case b => walk_at "jv"))
  | ((with_reducible refine' jv_gt ?a ?b); (case a => walk_at "jv"); (case b => walk_at "jv"))
  | ((with_reducible refine' jv_ge ?a ?b); (case a => walk_at "jv"); (case b => walk_at "jv"))
  | ((with_reducible refine' jv_eqI ?a ?b); (case a => walk_at "jv"); (case b => walk_at "jv"))
  | ((with_reducible refine' jv_neI ?a ?b); (case a => walk_at "jv"); (case b => walk_at "jv"))
  | ((with_reducible refine' jv_chain ?a ?b ?c); (case a => walk_at "jv"); (case b => walk_at "jv"); (case c => walk_at "jv"))
  | ((with_reducible refine' jv_not ?a); (case a => walk_at "jv"))
  | ((with_reducible refine' jv_len ?a); (case a => walk_at "js"))
  | ((with_reducible refine' jv_lenU ?a); (case a => walk_at "ju"))
  | ((with_reducible refine' jv_min2 ?a ?b); (case a => walk_at "jv"); (case b => walk_at "jv"))
  | ((with_reducible refine' jv_max2 ?a ?b); (case a => walk_at "jv"); (case b => walk_at "jv"))
  | assumption)
local macro_rules | `(tactic| walk_at "js") => `(tactic| first
  | exact js_var rfl
  | exact js_own rfl
  | exact Jd.lowS (js_var rfl)
  | assumption
  | exact Jd.nS (by assumption))
local macro_rules | `(tactic| walk_at "ju") => `(tactic| first
  | exact ju_var rfl
  | assumption)
local macro_rules | `(tactic| walk_at "jd") => `(tactic| first
  | exact jd_var rfl
  | exact Jd.low (jd_var rfl)
  | exact Jd.low (by assumption)
  | assumption
  | ((refine' Jd.int (Jd.eqV ?a ?b)); (case a => walk_at "jv"); (case b => first | rfl | (congr 1; omega)))
  | ((refine' Jd.bool ?a); (case a => walk_at "jv")))
local macro_rules | `(tactic| walk_at "jf") => `(tactic| first
  | exact jf_nil
  | ((with_reducible refine' jf_cons ?a ?b); (case a => walk_at "jd"); (case b => walk_at "jf")))
local macro_rules | `(tactic| walk_at "less") => `(tactic| first
  | exact LessI.nil
  | (refine LessI.keep ?_; walk_at "less")
  | (refine LessI.drop ?_; walk_at "less"))
local macro_rules | `(tactic| walk_at "loop") => `(tactic| (refine' run_loopW ?x ?y; (case x => exact rfl); (case y => walk_at "less")))

section
variable {P : Program} {w : World} {K : PySem.W.Frag} {mg : Str → Option Value} {base : Heap}

def preCell (ds : List D) : Prop := ∃ ns k, ds = [scrD ns, natD k]
def postCell (ds : List D) (out : Out) : Prop := ∃ ns k, ds = [scrD ns, natD k] ∧ out = .val (.int (cellf ns k))
theorem ok__law_cell_at (T : Tx K mg) : FnOk P w K mg base (L2.CX P w) 1 T.a__law_cell_at T.d__law_cell_at ["_law_script", "_law_k"] (spD K T.cl [false, false] true preCell postCell) := by
  refine fnD T.F__law_cell_at sc__law_cell_at rfl fun cdv A outer s E M B H Q ds hr hp wf ho => ?_
  obtain ⟨ns, k, rfl⟩ := hp
  refine ⟨_, (pss_cons (ps_if (pt_cmpR op_lt (pv 1) (pe_callB (len_K K rfl) (by rfl) T.n_len (by decide +kernel) (pa_cons (pv 0) pa_nil)) (nomark _))
      (pss_one (ps_ret (pe_ix (ix_K K rfl) (pv 0) (pv 1) (fun _ _ => rfl)))) pss_nil)
      (pss_one (ps_ret pe_int))), ?_⟩
  have ret := ho _ ⟨ns, k, rfl, rfl⟩
  refine run_if (b := decide ((k : Int) < (ns.length : Int))) (jt_test (jv_lt (jv_var rfl rfl) (jv_lenScr (jd_var rfl)))) (fun c => ?_) (fun c => ?_)
  · have c' : k < ns.length := by simpa using c
    exact run_retSeq (run_retV (jv_ixScr k (jd_var rfl) (jv_var rfl rfl) rfl c') rfl ret)
  · have c' : ¬ k < ns.length := by simpa using c
    have e : cellf ns k = 0 := by
      unfold cellf
      rw [List.getD_eq_getElem?_getD, List.getElem?_eq_none (by omega)]
      rfl
    rw [e] at ret
    exact run_next (run_retV jv_c rfl ret)

end
end Tr

namespace Tr
open PySem L2 DL TT
local macro_rules | `(tactic| walk_at "jv") => `(tactic| first
  | exact jv_c
  | exact jv_var rfl rfl
  | ((with_reducible refine' jv_add ?a ?b); (case a => walk_at "jv"); (case b => walk_at "jv"))
  | ((with_reducible refine' jv_sub ?a ?b); (case a => walk_at "jv"); (case b => walk_at "jv"))
  | ((with_reducible refine' jv_lt ?a ?b); (case a => walk_at "jv"); (case b => walk_at "jv"))
  | ((with_reducible refine' jv_le ?a ?b); (case a => walk_at "jv"); (case b => walk_at "jv"))
  | ((with_reducible refine' jv_gt ?a ?b); (case a => walk_at "jv"); (case b => walk_at "jv"))
  | ((with_reducible refine' jv_ge ?a ?b); (case a => walk_at "jv"); (case b => walk_at "jv"))
  | ((with_reducible refine' jv_eqI ?a ?b); (case a => walk_at "jv"); (case b => walk_at "jv"))
  | ((with_reducible refine' jv_neI ?a ?b); (case a => walk_at "jv"); (case b => walk_at "jv"))
  | ((with_reducible refine' jv_chain ?a ?b ?c); (case a => walk_at "jv"); (case b => walk_at "jv"); (case c => walk_at "jv"))
  | ((with_reducible refine' jv_not ?a); (case a => walk_at "jv"))
  | ((with_reducible refine' jv_len ?a); (case a => walk_at "js"))
  | ((with_reducible refine' jv_lenU ?a); (case a => walk_at "ju"))
  | ((with_reducible refine' jv_min2 ?a ?b); (case a => walk_at "jv"); (case b => walk_at "jv"))
  | ((with_reducible refine' jv_max2 ?a ?b); (case a => walk_at "jv"); (case b => walk_at "jv"))
  | assumption)
local macro_rules | `(tactic| walk_at "js") => `(tactic| first
  | exact js_var rfl
  | exact js_own rfl
  | exact Jd.lowS (js_var rfl)
  | assumption
  | exact Jd.nS (by assumption))
local macro_rules | `(tactic| walk_at "ju") => `(tactic| first
  | exact ju_var rfl
  | assumption)
local macro_rules | `(tactic| walk_at "jd") => `(tactic| first
  | exact jd_var rfl
  | exact Jd.low (jd_var rfl)
  | exact Jd.low (by assumption)
  | assumption
  | ((refine' Jd.int (Jd.eqV ?a ?b)); (case a => walk_at "jv"); (case b => first | rfl | (congr 1; omega)))
  | ((refine' Jd.bool ?a); (case a => walk_at "jv")))
local macro_rules | `(tactic| walk_at "jf") => `(tactic| first
  | exact jf_nil
  | ((with_reducible refine' jf_cons ?a ?b); (case a => walk_at "jd"); (case b => walk_at "jf")))
local macro_rules | `(tactic| walk_at "less") => `(tactic| first
  | exact LessI.nil
  | (refine LessI.keep ?_; walk_at "less")
  | (refine LessI.drop ?_; walk_at "less"))
local macro_rules | `(tactic| walk_at "loop") => `(tactic| (refine' run_loopW ?x ?y; (case x => exact rfl); (case y => walk_at "less")))

section
variable {P : Program} {w : World} {K : PySem.W.Frag} {mg : Str → Option Value} {base : Heap}

def preMixed (ds : List D) : Prop := ∃ ns k, ds = [scrD ns, natD k] ∧ ScrOk ns ∧ k ≤ 1000
def postMixed (ds : List D) (out : Out) : Prop := ∃ ns k, ds = [scrD ns, natD k] ∧ out = .val (natD (mixf ns k))
theorem ok__law_mixed (T : Tx K mg) : FnOk P w K mg base (L2.CX P w) 2 T.a__law_mixed T.d__law_mixed ["_law_script", "_law_k"] (spD K T.cl [false, false] true preMixed postMixed) := by
  refine fnD T.F__law_mixed sc__law_mixed rfl fun cdv A outer s E M B H Q ds hr hp wf ho => ?_
  obtain ⟨ns, k, rfl, so, hk⟩ := hp
  refine ⟨_, (pss_one (ps_ret (pe_op op_mod (pe_op op_addD (pe_op op_mulD (pe_callS (ok__law_cell_at T) (hr.mono (by decide)) (by rfl) T.g__law_cell_at T.F__law_cell_at.kp T.b__law_cell_at (fun σ => passAt (takes_of rfl rfl rfl rfl) σ) (pa_cons (pv 0) (pa_cons (pv 1) pa_nil))) pe_int) (pe_op op_mulD (pe_op op_mulD pe_int (pv 1)) (pv 1))) pe_int))), ?_⟩
  refine run_retV (v := .int (mixf ns k : Int)) (n := true) (d := natD (mixf ns k)) ?_ rfl (ho _ ⟨ns, k, rfl, rfl⟩)
  have hk2 : (k : Int).natAbs < 2 ^ 200 := by rw [Int.natAbs_natCast]; exact Nat.lt_of_le_of_lt hk (by decide)
  have h7 : (7919 * (k : Int)).natAbs < 2 ^ 200 := by
    rw [Int.natAbs_mul, Int.natAbs_natCast]
    exact Nat.lt_of_le_of_lt (Nat.mul_le_mul_left _ hk) (by decide)
  refine (jv_mod (jv_add (jv_mulW (jv_callS (d := .int (cellf ns k)) (by walk_at "jf") ⟨ns, k, rfl⟩ (fun out po => ?_) rfl) jv_c (cmulS (so.cell k))) (jv_mulS (jv_mulS jv_c (jv_var rfl rfl) (by decide) hk2) (jv_var rfl rfl) h7 hk2)) jv_c (by decide)).eqV (congrArg V.int (mixf_eq ns k))
  obtain ⟨ns', k', e, po⟩ := po
  obtain ⟨e1, e2⟩ := one_cons e
  rw [po, scrD_inj e1, natD_inj (one_cons e2).1]

end
end Tr

namespace Tr
open PySem L2 DL TT
local macro_rules | `(tactic| walk_at "jv") => `(tactic| first
  | exact jv_c
  | exact jv_var rfl rfl
  | ((with_reducible refine' jv_add ?a ?b); (case a => walk_at "jv"); (case b => walk_at "jv"))
  | ((with_reducible refine' jv_sub ?a ?b); (case a => walk_at "jv"); (case b => walk_at "jv"))
  | ((with_reducible refine' jv_lt ?a ?b); (case a => walk_at "jv"); (case b => walk_at "jv"))
  | ((with_reducible refine' jv_le ?a ?b); (case a => walk_at "jv"); (case b => walk_at "jv"))
  | ((with_reducible refine' jv_gt ?a ?b); (case a => walk_at "jv"); (case b => walk_at "jv"))
  | ((with_reducible refine' jv_ge ?a ?b); (case a => walk_at "jv"); (case b => walk_at "jv"))
  | ((with_reducible refine' jv_eqI ?a ?b); (case a => walk_at "jv"); (case b => walk_at "jv"))
  | ((with_reducible refine' jv_neI ?a ?b); (case a => walk_at "jv"); (case b => walk_at "jv"))
  | ((with_reducible refine' jv_chain ?a ?b ?c); (case a => walk_at "jv"); (case b => walk_at "jv"); (case c => walk_at "jv"))
  | ((with_reducible refine' jv_not ?a); (case a => walk_at "jv"))
  | ((with_reducible refine' jv_len ?a); (case a => walk_at "js"))
  | ((with_reducible refine' jv_lenU ?a); (case a => walk_at "ju"))
  | ((with_reducible refine' jv_min2 ?a ?b); (case a => walk_at "jv"); (case b => walk_at "jv"))
  | ((with_reducible refine' jv_max2 ?a ?b); (case a => walk_at "jv"); (case b => walk_at "jv"))
  | assumption)
local macro_rules | `(tactic| walk_at "js") => `(tactic| first
  | exact js_var rfl
  | exact js_own rfl
  | exact Jd.lowS (js_var rfl)
  | assumption
  | exact Jd.nS (by assumption))
local macro_rules | `(tactic| walk_at "ju") => `(tactic| first
  | exact ju_var rfl
  | assumption)
local macro_rules | `(tactic| walk_at "jd") => `(tactic| first
  | exact jd_var rfl
  | exact Jd.low (jd_var rfl)
  | exact Jd.low (by assumption)
  | assumption
  | ((refine' Jd.int (Jd.eqV ?a ?b)); (case a => walk_at "jv"); (case b => first | rfl | (congr 1; omega)))
  | ((refine' Jd.bool ?a); (case a => walk_at "jv")))
local macro_rules | `(tactic| walk_at "jf") => `(tactic| first
  | exact jf_nil
  | ((with_reducible refine' jf_cons ?a ?b); (case a => walk_at "jd"); (case b => walk_at "jf")))
local macro_rules | `(tactic| walk_at "less") => `(tactic| first
  | exact LessI.nil
  | (refine LessI.keep ?_; walk_at "less")
  | (refine LessI.drop ?_; walk_at "less"))
local macro_rules | `(tactic| walk_at "loop") => `(tactic| (refine' run_loopW ?x ?y; (case x => exact rfl); (case y => walk_at "less")))

section
variable {P : Program} {w : World} {K : PySem.W.Frag} {mg : Str → Option Value} {base : Heap}

def numF (ns : List Int) (k : Nat) (wide : Bool) : Int :=
  let c : Int := (mixf ns (2 + k) : Int) + (mixf ns (2 + k % 7) : Int) / 3
  if wide = true ∧ c % 3 = 0 then (c * 1000003 + c / 7) % 1000000000000 - 500000000000 else c / 3 % 7 - 3
theorem numF_bd (ns : List Int) (k : Nat) (wide : Bool) : (numF ns k wide).natAbs ≤ 500000000000 := by
  unfold numF
  dsimp only
  split <;> omega
def preNumber (ds : List D) : Prop := ∃ ns k b, ds = [scrD ns, natD k, .bool b] ∧ ScrOk ns ∧ k ≤ 900
def postNumber (ds : List D) (out : Out) : Prop := ∃ ns k b, ds = [scrD ns, natD k, .bool b] ∧ out = .val (.int (numF ns k b))
theorem ok__law_number (T : Tx K mg) : FnOk P w K mg base (L2.CX P w) 3 T.a__law_number T.d__law_number ["_law_script", "_law_k", "_law_wide"] (spD K T.cl [false, false, false] true preNumber postNumber) := by
  refine fnD T.F__law_number sc__law_number rfl fun cdv A outer s E M B H Q ds hr hp wf ho => ?_
  obtain ⟨ns, k, b, rfl, so, hk⟩ := hp
  refine ⟨_, (pss_cons (ps_set (i := 3) sc__law_number.nd rfl (Or.inl rfl) (pe_op op_addD (pe_callS (ok__law_mixed T) (hr.mono (by decide)) (by rfl) T.g__law_mixed T.F__law_mixed.kp T.b__law_mixed (fun σ => passAt (takes_of rfl rfl rfl rfl) σ) (pa_cons (pv 0) (pa_cons (pe_op op_addD pe_int (pv 1)) pa_nil))) (pe_op op_fdivA (pe_callS (ok__law_mixed T) (hr.mono (by decide)) (by rfl) T.g__law_mixed T.F__law_mixed.kp T.b__law_mixed (fun σ => passAt (takes_of rfl rfl rfl rfl) σ) (pa_cons (pv 0) (pa_cons (pe_op op_addD pe_int (pe_op op_mod (pv 1) pe_int)) pa_nil))) pe_int)))
      (pss_cons (ps_if (PW.pt (pw_and (pt_val (pv 2)) (pw_and1 (pt_cmpR (op_eqK K rfl hr.units) (pe_op op_mod (pv 3) pe_int) pe_int (nomark _)))))
      (pss_one (ps_ret (pe_op op_sub (pe_op op_mod (pe_op op_addD (pe_op op_mulD (pv 3) pe_int) (pe_op op_fdivA (pv 3) pe_int)) (pe_op op_pow pe_int pe_int)) (pe_op op_mulD pe_int (pe_op op_pow pe_int pe_int))))) pss_nil)
      (pss_one (ps_ret (pe_op op_sub (pe_op op_mod (pe_op op_fdivA (pv 3) pe_int) pe_int) pe_int))))), ?_⟩
  have ret := ho _ ⟨ns, k, b, rfl, rfl⟩
  have mixed : ∀ {te : TE} {E' : L2.St → XK} {env : List Sl} (k : Nat), k ≤ 1000 → env[0]? = some (.val false (scrD ns)) → JD K te env false (natD k) → JV K (tCallS (spD K T.cl [false, false] true preMixed postMixed) E' (tCons (tVar 0) (tCons te tNil))) env (.int (mixf ns k : Int)) := fun {te E' env} k hk h0 ht =>
    jv_callS (d := natD (mixf ns k)) (jf_cons (jd_var h0) (jf_cons ht jf_nil)) ⟨ns, k, rfl, so, hk⟩ (fun out ⟨ns', k', e, po⟩ => by
      obtain ⟨e1, e2⟩ := one_cons e
      rw [po, scrD_inj e1, natD_inj (one_cons e2).1]) rfl
  have m1 := mixf_lt ns (2 + k)
  have m2 := mixf_lt ns (2 + k % 7)
  obtain ⟨c, hc⟩ : ∃ c : Int, c = (mixf ns (2 + k) : Int) + (mixf ns (2 + k % 7) : Int) / 3 := ⟨_, rfl⟩
  have c0 : c.natAbs < 2 ^ 30 := by omega
  have en : numF ns k b = if b = true ∧ c % 3 = 0 then (c * 1000003 + c / 7) % 1000000000000 - 500000000000 else c / 3 % 7 - 3 := by
    unfold numF
    dsimp only
    rw [hc]
  refine run_setI (z := c) ((jv_add (mixed (2 + k) (by omega) rfl (Jd.int ((jv_add jv_c (jv_var rfl rfl)).eqV (by congr 1)))) (jv_div (mixed (2 + k % 7) (by omega) rfl (Jd.int ((jv_add jv_c (jv_mod (jv_var rfl rfl) jv_c (by decide))).eqV (by congr 1)))) jv_c (by decide) (by decide))).eqV (by rw [hc])) ?_
  refine run_if (b := b && decide (c % 3 = 0)) (jt_and (jt_B (jv_var rfl rfl)) fun _ => jt_test (jv_eqI (jv_mod (jv_var rfl rfl) jv_c (by decide)) jv_c)) (fun e => ?_) (fun e => ?_)
  · have e' : b = true ∧ c % 3 = 0 := by simpa using e
    rw [if_pos e'] at en
    rw [en] at ret
    refine run_retSeq (run_retV (d := .int ((c * 1000003 + c / 7) % 1000000000000 - 500000000000)) (jv_sub (jv_mod (jv_add (jv_mulS (jv_var rfl rfl) jv_c (Nat.lt_of_lt_of_le c0 (Nat.pow_le_pow_right (by decide) (by decide))) (by decide)) (jv_div (jv_var rfl rfl) jv_c (by decide) (by decide))) ((jv_pow jv_c jv_c ⟨by decide, by decide, by decide⟩).eqV (x := .int 1000000000000) rfl) (by decide)) (jv_mulS jv_c ((jv_pow jv_c jv_c ⟨by decide, by decide, by decide⟩).eqV (x := .int 100000000000) rfl) (by decide) (by decide))) rfl ret)
  · have e' : ¬ (b = true ∧ c % 3 = 0) := by
      intro z
      rw [z.1, decide_eq_true z.2] at e
      exact absurd e (by decide)
    rw [if_neg e'] at en
    rw [en] at ret
    exact run_next (run_retV (jv_sub (jv_mod (jv_div (jv_var rfl rfl) jv_c (by decide) (by decide)) jv_c (by decide)) jv_c) rfl ret)

end
end Tr

namespace Tr
open PySem L2 DL TT
local macro_rules | `(tactic| walk_at "jv") => `(tactic| first
  | exact jv_c
  | exact jv_var rfl rfl
  | ((with_reducible refine' jv_add ?a ?b); (case a => walk_at "jv"); (case b => walk_at "jv"))
  | ((with_reducible refine' jv_sub ?a ?b); (case a => walk_at "jv"); (case b => walk_at "jv"))
  | ((with_reducible refine' jv_lt ?a ?b); (case a => walk_at "jv"); (case b => walk_at "jv"))
  | ((with_reducible refine' jv_le ?a ?b); (case a => walk_at "jv"); (case b => walk_at "jv"))
  | ((with_reducible refine' jv_gt ?a ?b); (case a => walk_at "jv"); (case b => walk_at "jv"))
  | ((with_reducible refine' jv_ge ?a ?b); (case a => walk_at "jv"); (case b => walk_at "jv"))
  | ((with_reducible refine' jv_eqI ?a ?b); (case a => walk_at "jv"); (case b => walk_at "jv"))
  | ((with_reducible refine' jv_neI ?a ?b); (case a => walk_at "jv"); (case b => walk_at "jv"))
  | ((with_reducible refine' jv_chain ?a ?b ?c); (case a => walk_at "jv"); (case b => walk_at "jv"); (case c => walk_at "jv"))
  | ((with_reducible refine' jv_not ?a); (case a => walk_at "jv"))
  | ((with_reducible refine' jv_len ?a); (case a => walk_at "js"))
  | ((with_reducible refine' jv_lenU ?a); (case a => walk_at "ju"))
  | ((with_reducible refine' jv_min2 ?a ?b); (case a => walk_at "jv"); (case b => walk_at "jv"))
  | ((with_reducible refine' jv_max2 ?a ?b); (case a => walk_at "jv"); (case b => walk_at "jv"))
  | assumption)
local macro_rules | `(tactic| walk_at "js") => `(tactic| first
  | exact js_var rfl
  | exact js_own rfl
  | exact Jd.lowS (js_var rfl)
  | assumption
  | exact Jd.nS (by assumption))
local macro_rules | `(tactic| walk_at "ju") => `(tactic| first
  | exact ju_var rfl
  | assumption)
local macro_rules | `(tactic| walk_at "jd") => `(tactic| first
  | exact jd_var rfl
  | exact Jd.low (jd_var rfl)
  | exact Jd.low (by assumption)
  | assumption
  | ((refine' Jd.int (Jd.eqV ?a ?b)); (case a => walk_at "jv"); (case b => first | rfl | (congr 1; omega)))
  | ((refine' Jd.bool ?a); (case a => walk_at "jv")))
local macro_rules | `(tactic| walk_at "jf") => `(tactic| first
  | exact jf_nil
  | ((with_reducible refine' jf_cons ?a ?b); (case a => walk_at "jd"); (case b => walk_at "jf")))
local macro_rules | `(tactic| walk_at "less") => `(tactic| first
  | exact LessI.nil
  | (refine LessI.keep ?_; walk_at "less")
  | (refine LessI.drop ?_; walk_at "less"))
local macro_rules | `(tactic| walk_at "loop") => `(tactic| (refine' run_loopW ?x ?y; (case x => exact rfl); (case y => walk_at "less")))

section
variable {P : Program} {w : World} {K : PySem.W.Frag} {mg : Str → Option Value} {base : Heap}

def preMade (ds : List D) : Prop := ∃ ns, ds = [scrD ns] ∧ ScrOk ns
def postMade (_ : List D) (out : Out) : Prop := ∃ (n : Nat) (R : List (List Int)), n ≤ 5 ∧ R.length = n ∧ Rw n 1000000000000 R ∧ out = .new (R.map rowD)
theorem ok__law_rows (T : Tx K mg) : FnOk P w K mg base (L2.CX P w) 4 T.a__law_rows T.d__law_rows ["_law_script"] (spD K T.cl [false] true preMade postMade) := by
  refine fnD T.F__law_rows sc__law_rows rfl fun cdv A outer s E M B H Q ds hr hp wf ho => ?_
  obtain ⟨ns, rfl, so⟩ := hp
  refine ⟨_, (pss_cons (ps_set (i := 1) sc__law_rows.nd rfl (Or.inl rfl) (pe_callS (ok__law_mixed T) (hr.mono (by decide)) (by rfl) T.g__law_mixed T.F__law_mixed.kp T.b__law_mixed (fun σ => passAt (takes_of rfl rfl rfl rfl) σ) (pa_cons (pv 0) (pa_cons pe_int pa_nil))))
      (pss_cons (ps_set (i := 2) sc__law_rows.nd rfl (Or.inr rfl) (pe_op op_mod (pv 1) pe_int))
      (pss_cons (ps_set (i := 3) sc__law_rows.nd rfl (Or.inr rfl) (pe_cmpR (op_eqK K rfl hr.units) (pe_op op_mod (pe_op op_fdivA (pv 1) pe_int) pe_int) pe_int (nomark _)))
      (pss_cons (ps_set (i := 4) sc__law_rows.nd rfl (Or.inr rfl) (pe_lst pa_nil))
      (pss_cons (PS.nox (ps_for PassesOwn.never rfl (pi_range1 (by rfl) T.n_range (pa_cons (pv 2) pa_nil)) (pg_name (i := 5) sc__law_rows.nd rfl (Or.inr rfl))
      (pss_one (ps_expr (bm_K K rfl PySem.F.plainAttrs_list PySem.F.slot_list_append PySem.F.type_list_append mt_append (pv 4) (pa_cons (pe_lc (own := [("_law_k", 6)]) rfl sc__law_rows.nd (pi_range1 (by rfl) T.n_range (pa_cons (pv 2) pa_nil)) (blkOk_by (own := [("_law_k", 6)]) (N := ["_law_script", "_law_first", "_law_size", "_law_wide", "_law_rows_here", "_law_i", "_law_k", "_law_some", "_law_many", "_law_last"]) (sc := defScope s__law_rows) (by decide +kernel)) (fun _ _ _ _ _ => (pg_name (i := 6) sc__law_rows.nd rfl (Or.inl rfl))) (fun _ _ _ _ _ => pts_nil) (fun _ _ _ _ _ => (pe_call (ok__law_number T) (hr.mono (by decide)) (by rfl) T.g__law_number T.F__law_number.kp T.b__law_number .nil passL (pa_cons (pv 0) (pa_cons (pe_op op_addD (pe_op op_mulD (pv 2) (pv 5)) (pv 6)) (pa_cons (pv 3) pa_nil)))))) pa_nil))))))
      (pss_cons (PS.nox (ps_for PassesOwn.never rfl (pi_range1 (by rfl) T.n_range (pa_cons (pv 2) pa_nil)) (pg_name (i := 5) sc__law_rows.nd rfl (Or.inr rfl))
      (pss_cons (ps_set (i := 7) sc__law_rows.nd rfl (Or.inl rfl) (pe_op op_sub (pe_op op_mod (pe_op op_fdivA (pe_call (ok__law_mixed T) (hr.mono (by decide)) (by rfl) T.g__law_mixed T.F__law_mixed.kp T.b__law_mixed .nil passL (pa_cons (pv 0) (pa_cons pe_int pa_nil))) (pe_op op_addD pe_int (pe_op op_mulD pe_int (pv 5)))) pe_int) pe_int))
      (pss_cons (ps_set (i := 8) sc__law_rows.nd rfl (Or.inl rfl) (pe_callB (call_max2 rfl) (by rfl) T.n_max (by decide +kernel) (pa_cons pe_int (pa_cons (pe_callB (call_min2 rfl) (by rfl) T.n_min (by decide +kernel) (pa_cons (pv 2) (pa_cons (pv 7) pa_nil))) pa_nil))))
      (pss_one (ps_asg (pe_op op_addD (pe_op op_mulD (pe_lst (pa_cons pe_int pa_nil)) (pv 8)) (pe_slice (sl_K K rfl) (pe_ix (ix_K K rfl) (pv 4) (pv 5) (fun _ _ => rfl)) (po_some (pv 8)) po_none)) (pg_sub (pv 4) (pv 5) set_list)))))))
      (pss_cons (ps_if (PW.pt (pw_and (pt_cmpR op_gt (pv 2) pe_int (nomark _)) (pw_and1 (pt_cmpR (op_eqK K rfl hr.units) (pe_op op_mod (pe_op op_fdivA (pv 1) pe_int) pe_int) pe_int (nomark _)))))
      (pss_cons (ps_set (i := 9) sc__law_rows.nd rfl (Or.inr rfl) (pe_ix (ix_K K rfl) (pv 4) (pe_op op_sub (pv 2) pe_int) (fun _ _ => rfl)))
      (pss_one (ps_asg (pe_lc (own := [("_law_k", 6)]) rfl sc__law_rows.nd (pi_range1 (by rfl) T.n_range (pa_cons (pv 2) pa_nil)) (blkOk_by (own := [("_law_k", 6)]) (N := ["_law_script", "_law_first", "_law_size", "_law_wide", "_law_rows_here", "_law_i", "_law_k", "_law_some", "_law_many", "_law_last"]) (sc := defScope s__law_rows) (by decide +kernel)) (fun _ _ _ _ _ => (pg_name (i := 6) sc__law_rows.nd rfl (Or.inl rfl))) (fun _ _ _ _ _ => pts_nil) (fun _ _ _ _ _ => (pe_op op_addD (pe_ix (ix_K K rfl) (pe_ix (ix_K K rfl) (pv 4) pe_int (fun _ _ => rfl)) (pv 6) (fun _ _ => rfl)) (pe_ix (ix_K K rfl) (pv 9) (pv 6) (fun _ _ => rfl))))) (pg_sub (pv 4) (pe_op op_mod (pe_op op_fdivA (pv 1) pe_int) (pv 2)) set_list)))) pss_nil)
      (pss_one (ps_ret (pv 4)))))))))), ?_⟩
  have inj : ∀ {ns' : List Int} {k k' : Nat}, [scrD ns, natD k] = [scrD ns', natD k'] → mixf ns' k' = mixf ns k := fun e => by
    obtain ⟨e1, e2⟩ := one_cons e
    rw [scrD_inj e1, natD_inj (one_cons e2).1]
  have mixed : ∀ {te : TE} {env : List Sl} (k : Nat), k ≤ 1000 → env[0]? = some (.val false (scrD ns)) → JD K te env false (natD k) → JV K (tCall (spD K T.cl [false, false] true preMixed postMixed) [] E0 (tCons (tVar 0) (tCons te tNil))) env (.int (mixf ns k : Int)) := fun {te env} k hk h0 ht =>
    jv_call (d := natD (mixf ns k)) (jf_cons (jd_var h0) (jf_cons ht jf_nil)) ⟨ns, k, rfl, so, hk⟩ (fun out ⟨ns', k', e, po⟩ => by rw [po, inj e]) rfl
  refine run_setI (z := (mixf ns 0 : Int)) (jv_callS (d := natD (mixf ns 0)) (jf_cons (jd_var rfl) (jf_cons (Jd.int jv_c) jf_nil)) ⟨ns, 0, rfl, so, by decide⟩ (fun out ⟨ns', k', e, po⟩ => by rw [po, inj e]) rfl) ?_
  obtain ⟨f, hf⟩ : ∃ f, f = mixf ns 0 := ⟨_, rfl⟩
  rw [← hf]
  obtain ⟨n, hn⟩ : ∃ n, n = f % 6 := ⟨_, rfl⟩
  refine run_setI (z := (n : Int)) ((jv_mod (jv_var rfl rfl) jv_c (by decide)).eqV (by rw [hn]; congr 1)) ?_
  have n5 : n ≤ 5 := by omega
  obtain ⟨b, hb⟩ : ∃ b, b = decide ((f : Int) / 6 % 3 = 1) := ⟨_, rfl⟩
  refine run_setB (z := b) ((jv_eqI (jv_mod (jv_div (jv_var rfl rfl) jv_c (by decide) (by decide)) jv_c (by decide)) jv_c).eqV (by rw [hb])) ?_
  refine run_setN (n := true) (ds := []) (jn_lst ja_nil (Nat.zero_le _)) ?_
  refine run_forR (k := (n : Int)) (fun i env => ∃ R : List (List Int), env = [.val false (scrD ns), .val true (natD f), .val true (natD n), .val true (.bool b), .own true (R.map rowD), .un, .un, .un, .un, .un] ∧ R.length = i ∧ Rw n 500000000000 R) (jv_var rfl rfl) (by omega) (by omega) ⟨[], rfl, rfl, Rw.nil⟩ (fun i env1 hi ⟨R, e1, rl, rw1⟩ => ?_) (fun env1 ⟨R, e1, rl, rw1⟩ => ?_)
  · subst e1
    have hi' : i < n := by omega
    refine run_one (run_appendE rfl (d := rowD ((List.range n).map fun k => numF ns (n * i + k) b)) ?_ (by rw [List.length_map]; omega) (run_loopW (env' := [.val false (scrD ns), .val true (natD f), .val true (natD n), .val true (.bool b), .own true ((R ++ [(List.range n).map fun k => numF ns (n * i + k) b]).map rowD), .un, .un, .un, .un, .un]) ⟨_, rfl, by simp [rl], rw1.push (by simp) ?bd⟩ (by walk_at "less")) ?_)
    · refine ((jn_mapR (k := (n : Int)) (fun k => .int (numF ns (n * i + k) b)) (jv_var rfl rfl) (by omega) (by omega) fun k hk => ⟨_, tg_name, ?_⟩).eqN ?_).nD
      · have q : n * i + k ≤ 900 := by
          have : n * i ≤ 5 * 5 := Nat.mul_le_mul n5 (by omega)
          omega
        refine (jd_call (jf_cons (jd_var rfl) (jf_cons (Jd.int (j := ((n * i + k : Nat) : Int)) ((jv_add (jv_mulS (jv_var rfl rfl) (jv_var rfl rfl) ?_ ?_) (jv_var rfl rfl)).eqV (by congr 1))) (jf_cons (jd_var rfl).low jf_nil))) ⟨ns, n * i + k, b, rfl, so, q⟩ fun out ⟨ns', k', b', e, po⟩ => .inl ?_)
        · exact Nat.lt_of_le_of_lt (show ((n : Nat) : Int).natAbs ≤ 5 by omega) (by decide)
        · exact Nat.lt_of_le_of_lt (show ((i : Nat) : Int).natAbs ≤ 5 by omega) (by decide)
        · obtain ⟨e1, e2⟩ := one_cons e
          obtain ⟨e2, e3⟩ := one_cons e2
          rw [po, scrD_inj e1, natD_inj e2, PyData.bool.inj (one_cons e3).1]
      · rw [Int.toNat_natCast, List.map_map]
        rfl
    · exact fun x hx => by
        obtain ⟨k, _, rfl⟩ := List.mem_map.mp hx
        exact numF_bd ns _ b
    · rw [List.map_append]
      rfl
  · subst e1
    rw [Int.toNat_natCast] at rl
    refine run_forR (k := (n : Int)) (fun i env => ∃ R : List (List Int), env = [.val false (scrD ns), .val true (natD f), .val true (natD n), .val true (.bool b), .own true (R.map rowD), .un, .un, .un, .un, .un] ∧ R.length = n ∧ Rw n 500000000000 R) (jv_var rfl rfl) (by omega) (by omega) ⟨R, rfl, rl, rw1⟩ (fun i env1 hi ⟨R, e1, rl, rw1⟩ => ?_) (fun env1 ⟨R, e1, rl, rw1⟩ => ?_)
    · subst e1
      have hi' : i < n := by omega
      obtain ⟨sm, hs⟩ : ∃ sm, sm = (mixf ns 1 : Int) / (1 + 5 * (i : Int)) % 5 - 2 := ⟨_, rfl⟩
      refine run_setI (z := sm) ((jv_sub (jv_mod (jv_div (mixed 1 (by decide) rfl (Jd.int jv_c)) (jv_add jv_c (jv_mulS jv_c (jv_var rfl rfl) (by decide) ?_)) (by omega) (by omega)) jv_c (by decide)) jv_c).eqV (by rw [hs])) ?_
      · exact Nat.lt_of_le_of_lt (show ((i : Nat) : Int).natAbs ≤ 5 by omega) (by decide)
      obtain ⟨m, hm⟩ : ∃ m : Nat, m = (max 0 (min (n : Int) sm)).toNat := ⟨_, rfl⟩
      have hm1 : max 0 (min (n : Int) sm) = (m : Int) := by omega
      have hm2 : m ≤ n := by omega
      refine run_setI (z := (m : Int)) ((jv_max2 jv_c (jv_min2 (jv_var rfl rfl) (jv_var rfl rfl))).eqV (congrArg V.int hm1)) ?_
      have il : i < R.length := by omega
      refine run_one (run_put (j := i) rfl (d := rowD (List.replicate m 0 ++ (R.getD i []).drop m)) ?_ (jv_var rfl rfl) rfl (by rw [List.length_map]; exact il) (run_loopW (env' := [.val false (scrD ns), .val true (natD f), .val true (natD n), .val true (.bool b), .own true ((R.set i (List.replicate m 0 ++ (R.getD i []).drop m)).map rowD), .un, .un, .un, .un, .un]) ⟨_, rfl, by rw [List.length_set]; exact rl, rw1.put ?_ fun x hx => ?_⟩ ?_))
      · have h1 : JN K (tOp rMulD (tLst (tCons (tC (.int 0)) tNil)) (tVar 8)) [.val false (scrD ns), .val true (natD f), .val true (natD n), .val true (.bool b), .own true (R.map rowD), .val true (natD i), .un, .val true (.int sm), .val true (.int (m : Int)), .un] true ((List.replicate m (0 : Int)).map PyData.int) := by
          refine (jn_rep (ds := [.int 0]) (jn_lst (ja_cons (Jd.int jv_c) ja_nil) (by simp)).nS (jv_var rfl rfl) (by omega) (by simp; omega) (by omega)).eqN ?_
          rw [Int.toNat_natCast, List.map_replicate]
          clear hm hm1 hm2
          induction m with
          | zero => rfl
          | succ m ih =>
            rw [List.replicate_succ, List.replicate_succ, List.flatten_cons, ih]
            rfl
        have h2 : JN K (tSl (rSlL K) (tOp (rIx K) (tVar 4) (tVar 5)) (tPart (tVar 8)) tNoPart) [.val false (scrD ns), .val true (natD f), .val true (natD n), .val true (.bool b), .own true (R.map rowD), .val true (natD i), .un, .val true (.int sm), .val true (.int (m : Int)), .un] true (((R.getD i []).drop m).map PyData.int) := by
          refine (jn_slice (jd_ixE (enc := rowD) i [] (js_own rfl) (jv_var rfl rfl) rfl il).dS (jo_some (jv_var rfl rfl)) jo_none).eqN ?_
          rw [cutG_map]
          congr 1
          exact cutG_from _ m
        refine ((jn_cat h1.nS h2.nS ?_).eqN ?_).nD
        · have := rw1.at il
          simp only [List.length_map, List.length_replicate, List.length_drop]
          omega
        · rw [← List.map_append]
      · rw [List.length_append, List.length_replicate, List.length_drop, rw1.at il]
        omega
      · rcases List.mem_append.mp hx with hx | hx
        · rw [(List.mem_replicate.mp hx).2]
          decide
        · exact rw1.mem il x (List.mem_of_mem_drop hx)
      · rw [List.map_set]
        walk_at "less"
    · subst e1
      refine run_ifJ (b := decide ((2 : Int) < (n : Int)) && decide ((f : Int) / 18 % 4 = 1)) (fun env' => ∃ R : List (List Int), env' = [.val false (scrD ns), .val true (natD f), .val true (natD n), .val true (.bool b), .own true (R.map rowD), .un, .un, .un, .un, .un] ∧ R.length = n ∧ Rw n 1000000000000 R) (jt_and (jt_test (jv_gt (jv_var rfl rfl) jv_c)) fun _ => jt_test (jv_eqI (jv_mod (jv_div (jv_var rfl rfl) jv_c (by decide) (by decide)) jv_c (by decide)) jv_c)) (fun env' ⟨R, e1, rl, rw1⟩ => ?_) (fun go c => ?_) (fun go c => ?_)
      · subst e1
        exact run_retO rfl (ho _ ⟨n, R, n5, rl, rw1, rfl⟩)
      · have n2 : 2 < n := by
          have := (Bool.and_eq_true_iff.mp c).1
          have := of_decide_eq_true this
          omega
        refine run_assoc (run_set (n := true) (d := rowD (R.getD (n - 1) [])) (jd_ixE (enc := rowD) (n - 1) [] (js_own rfl) (jv_sub (jv_var rfl rfl) jv_c) (by omega) (by omega)) ?_)
        have hq : (f : Int) / 72 % (n : Int) = ((f / 72 % n : Nat) : Int) := rfl
        have hq' : f / 72 % n < n := Nat.mod_lt _ (by omega)
        refine run_put (j := f / 72 % n) rfl (d := rowD ((List.range n).map fun k => ent R 0 k + ent R (n - 1) k)) ?_ (jv_mod (jv_div (jv_var rfl rfl) jv_c (by decide) (by decide)) (jv_var rfl rfl) (by omega)) hq (by rw [List.length_map]; omega) (run_weak (env' := [.val false (scrD ns), .val true (natD f), .val true (natD n), .val true (.bool b), .own true ((R.set (f / 72 % n) ((List.range n).map fun k => ent R 0 k + ent R (n - 1) k)).map rowD), .un, .un, .un, .un, .un]) (LessI.less ?_) (go _ ⟨_, rfl, by rw [List.length_set]; exact rl, (rw1.up (by decide)).put (by simp) fun x hx => ?_⟩))
        · refine ((jn_mapR (k := (n : Int)) (fun k => .int (ent R 0 k + ent R (n - 1) k)) (jv_var rfl rfl) (by omega) (by omega) fun k hk => ⟨_, tg_name, ?_⟩).eqN ?_).nD
          · have hk' : k < n := by omega
            refine Jd.int (jv_add ((jd_ixE (enc := PyData.int) k 0 (jd_ixE (enc := rowD) 0 [] (js_own rfl) jv_c rfl (by omega)).dS (jv_var rfl rfl) rfl (by rw [rw1.at (by omega)]; exact hk')).toV rfl) ((jd_ixE (enc := PyData.int) k 0 (js_var rfl) (jv_var rfl rfl) rfl (by rw [rw1.at (by omega)]; exact hk')).toV rfl))
          · rw [Int.toNat_natCast, List.map_map]
            rfl
        · rw [List.map_set]
          walk_at "less"
        · obtain ⟨k, hk, rfl⟩ := List.mem_map.mp hx
          have hk' := List.mem_range.mp hk
          have b1 := rw1.ent (i := 0) (by omega) hk'
          have b2 := rw1.ent (i := n - 1) (by omega) hk'
          have := Int.natAbs_add_le (ent R 0 k) (ent R (n - 1) k)
          omega
      · exact run_next (go _ ⟨R, rfl, rl, rw1.up (by decide)⟩)

end
end Tr

namespace Tr
open PySem L2 DL TT
local macro_rules | `(tactic| walk_at "jv") => `(tactic| first
  | exact jv_c
  | exact jv_var rfl rfl
  | ((with_reducible refine' jv_add ?a ?b); (case a => walk_at "jv"); (case b => walk_at "jv"))
  | ((with_reducible refine' jv_sub ?a ?b); (case a => walk_at "jv"); (case b => walk_at "jv"))
  | ((with_reducible refine' jv_lt ?a ?b); (case a => walk_at "jv"); (case b => walk_at "jv"))
  | ((with_reducible refine' jv_le ?a ?b); (case a => walk_at "jv"); (case b => walk_at "jv"))
  | ((with_reducible refine' jv_gt ?a ?b); (case a => walk_at "jv"); (case b => walk_at "jv"))
  | ((with_reducible refine' jv_ge ?a ?b); (case a => walk_at "jv"); (case b => walk_at "jv"))
  | ((with_reducible refine' jv_eqI ?a ?b); (case a => walk_at "jv"); (case b => walk_at "jv"))
  | ((with_reducible refine' jv_neI ?a ?b); (case a => walk_at "jv"); (case b => walk_at "jv"))
  | ((with_reducible refine' jv_chain ?a ?b ?c); (case a => walk_at "jv"); (case b => walk_at "jv"); (case c => walk_at "jv"))
  | ((with_reducible refine' jv_not ?a); (case a => walk_at "jv"))
  | ((with_reducible refine' jv_len ?a); (case a => walk_at "js"))
  | ((with_reducible refine' jv_lenU ?a); (case a => walk_at "ju"))
  | ((with_reducible refine' jv_min2 ?a ?b); (case a => walk_at "jv"); (case b => walk_at "jv"))
  | ((with_reducible refine' jv_max2 ?a ?b); (case a => walk_at "jv"); (case b => walk_at "jv"))
  | assumption)
local macro_rules | `(tactic| walk_at "js") => `(tactic| first
  | exact js_var rfl
  | exact js_own rfl
  | exact Jd.lowS (js_var rfl)
  | assumption
  | exact Jd.nS (by assumption))
local macro_rules | `(tactic| walk_at "ju") => `(tactic| first
  | exact ju_var rfl
  | assumption)
local macro_rules | `(tactic| walk_at "jd") => `(tactic| first
  | exact jd_var rfl
  | exact Jd.low (jd_var rfl)
  | exact Jd.low (by assumption)
  | assumption
  | ((refine' Jd.int (Jd.eqV ?a ?b)); (case a => walk_at "jv"); (case b => first | rfl | (congr 1; omega)))
  | ((refine' Jd.bool ?a); (case a => walk_at "jv")))
local macro_rules | `(tactic| walk_at "jf") => `(tactic| first
  | exact jf_nil
  | ((with_reducible refine' jf_cons ?a ?b); (case a => walk_at "jd"); (case b => walk_at "jf")))
local macro_rules | `(tactic| walk_at "less") => `(tactic| first
  | exact LessI.nil
  | (refine LessI.keep ?_; walk_at "less")
  | (refine LessI.drop ?_; walk_at "less"))
local macro_rules | `(tactic| walk_at "loop") => `(tactic| (refine' run_loopW ?x ?y; (case x => exact rfl); (case y => walk_at "less")))

section
variable {P : Program} {w : World} {K : PySem.W.Frag} {mg : Str → Option Value} {base : Heap}

def preLw (m : Nat) (ds : List D) : Prop := ∃ (n : Nat) (R : List (List Int)), m = n + 1 ∧ ds = [rowsD R] ∧ Small n R
def postLw (ds : List D) (out : Out) : Prop := ∃ (n : Nat) (R : List (List Int)), ds = [rowsD R] ∧ Small n R ∧ out = .val (.int (det n (ent R)))
theorem rec__law_worth (T : Tx K mg) : ∀ m : Nat, FnOk P w K mg base (L2.CX P w) (m + 1) T.a__law_worth T.d__law_worth ["_law_rows_here"] (spD K T.cl [false] true (preLw m) postLw)
  | 0 => fnD T.F__law_worth sc__law_worth rfl fun cdv A outer s E M B H Q ds hr hp wf ho => by
    obtain ⟨n, R, e, _⟩ := hp
    exact nomatch e
  | m + 1 => by
    have ok__law_worth := fun (_ : Tx K mg) => rec__law_worth T m
    refine fnD T.F__law_worth sc__law_worth rfl fun cdv A outer s E M B H Q ds hr hp wf ho => ?_
    obtain ⟨n, R, e, rfl, sm⟩ := hp
    obtain rfl : m = n := by omega
    refine ⟨_, (pss_cons (ps_if (pt_cmpR (op_eqK K rfl hr.units) (pv 0) (pe_lst pa_nil) (nomark _))
      (pss_one (ps_ret pe_int)) pss_nil)
      (pss_cons (ps_set (i := 1) sc__law_worth.nd rfl (Or.inl rfl) pe_int)
      (pss_cons (PS.nox (ps_for PassesOwn.never rfl (pi_range1 (by rfl) T.n_range (pa_cons (pe_callB (len_K K rfl) (by rfl) T.n_len (by decide +kernel) (pa_cons (pv 0) pa_nil)) pa_nil)) (pg_name (i := 2) sc__law_worth.nd rfl (Or.inr rfl))
      (pss_one (ps_if (pt_cmpR (op_neK K rfl hr.units) (pe_ix (ix_K K rfl) (pe_ix (ix_K K rfl) (pv 0) pe_int (fun _ _ => rfl)) (pv 2) (fun _ _ => rfl)) pe_int (nomark _))
      (pss_cons (ps_set (i := 3) sc__law_worth.nd rfl (Or.inl rfl) (pe_call (ok__law_worth T) (hr.mono (Nat.le_refl _)) (by rfl) T.g__law_worth T.F__law_worth.kp T.b__law_worth .nil passL (pa_cons (pe_lc (own := [("_law_row", 4)]) rfl sc__law_worth.nd (list_pi K rfl (pe_slice (sl_K K rfl) (pv 0) (po_some pe_int) po_none)) (blkOk_by (own := [("_law_row", 4)]) (N := ["_law_rows_here", "_law_found", "_law_k", "_law_left", "_law_row"]) (sc := defScope s__law_worth) (by decide +kernel)) (fun _ _ _ _ _ => (pg_name (i := 4) sc__law_worth.nd rfl (Or.inl rfl))) (fun _ _ _ _ _ => pts_nil) (fun _ _ _ _ _ => (pe_op op_addD (pe_slice (sl_K K rfl) (pv 4) po_none (po_some (pv 2))) (pe_slice (sl_K K rfl) (pv 4) (po_some (pe_op op_addD (pv 2) pe_int)) po_none)))) pa_nil)))
      (pss_one (ps_set (i := 1) sc__law_worth.nd rfl (Or.inl rfl) (pe_op op_addD (pv 1) (pe_op op_mulD (pe_op op_mulD (pe_ix (ix_K K rfl) (pe_lst (pa_cons pe_int (pa_cons (pe_un un_neg pe_int) pa_nil))) (pe_op op_mod (pv 2) pe_int) (fun _ _ => rfl)) (pe_ix (ix_K K rfl) (pe_ix (ix_K K rfl) (pv 0) pe_int (fun _ _ => rfl)) (pv 2) (fun _ _ => rfl))) (pv 3)))))) pss_nil))))
      (pss_one (ps_ret (pv 1)))))), ?_⟩
    have ret : ∀ z : Int, z = det m (ent R) → OutOk K T.cl M B true H Q E (.val (.int z)) := fun z e => by
      rw [e]
      exact ho _ ⟨m, R, rfl, sm, rfl⟩
    have rl := sm.sq.len
    have m8 := sm.le
    have oR : OkD 2 (rowsD R) := okD_list fun d hd => by
      obtain ⟨r, _, rfl⟩ := List.mem_map.mp hd
      exact okD_ints r
    have q : decide (m = 0) = true ↔ rowsD R = rowsD [] := ⟨fun h => by
      rw [List.eq_nil_of_length_eq_zero (rl.trans (of_decide_eq_true h))], fun h => decide_eq_true (by rw [← rl, rowsD_inj h]; rfl)⟩
    refine run_if (b := decide (m = 0)) (jt_test (jv_eqB (jd_eE (jd_var rfl) oR) (js_eE (ds := []) (jn_lst (n := true) ja_nil (by simp)).nS (k := 1) (okD_ints [])) oR (okD_ints (k := 0) []) q)) (fun c => ?_) (fun c => ?_)
    · obtain rfl : m = 0 := of_decide_eq_true c
      exact run_retSeq (run_retV jv_c rfl (ret 1 rfl))
    · have c' : m ≠ 0 := of_decide_eq_false c
      obtain ⟨n, rfl⟩ : ∃ n, m = n + 1 := ⟨m - 1, by omega⟩
      refine run_next (run_setI jv_c ?_)
      refine run_forR (k := ((n + 1 : Nat) : Int)) (fun k env => env = [.val false (rowsD R), .val true (.int (sumTo k fun c => sgn c * ent R 0 c * det n (minor (ent R) c))), .un, .un, .un]) ((jv_len (js_var rfl)).eqV (by rw [List.length_map, rl])) (by omega) (by omega) rfl (fun k env1 hk e1 => ?_) (fun env1 e1 => ?_)
      · subst e1
        have hk' : k < n + 1 := by omega
        obtain ⟨S, hS⟩ : ∃ S, S = sumTo k fun c => sgn c * ent R 0 c * det n (minor (ent R) c) := ⟨_, rfl⟩
        rw [← hS]
        have g1 : ∀ env, env[0]? = some (.val false (rowsD R)) → env[2]? = some (.val true (natD k)) → JV K (tOp (rIx K) (tOp (rIx K) (tVar 0) (tC (.int 0))) (tVar 2)) env (.int (ent R 0 k)) := fun env a b =>
          (jd_ixE (enc := PyData.int) k 0 (jd_ixE (enc := rowD) 0 [] (js_var a) jv_c rfl (by omega)).dS (jv_var b rfl) rfl (by rw [sm.sq.at (by omega)]; exact hk')).toV rfl
        refine run_one (run_if (b := !decide (ent R 0 k = 0)) (jt_test (jv_neI (g1 _ rfl rfl) jv_c)) (fun c => ?_) (fun c => ?_))
        · have sm' := minorL_small sm hk'
          have de : det n (ent (minorL R k)) = det n (minor (ent R) k) := det_congr fun i j hi _ => minorL_ent sm.sq hk' hi j
          have db : (det n (ent (minorL R k))).natAbs ≤ 2 ^ 504 := Nat.le_trans (det_bound n _ _ sm'.le sm'.bd) (pow_le8 sm'.le)
          refine run_assoc (run_setI (z := det n (ent (minorL R k))) (jv_call (d := .int (det n (ent (minorL R k)))) (jf_cons (d := rowsD (minorL R k)) ?_ jf_nil) ⟨n, _, rfl, rfl, sm'⟩ (fun out ⟨n', R', e, s2, po⟩ => ?_) rfl) ?_)
          · have s1 : JN K (tSl (rSlL K) (tVar 0) (tPart (tC (.int 1))) tNoPart) [.val false (rowsD R), .val true (.int S), .val true (natD k), .un, .un] false ((R.drop 1).map rowD) := by
              refine (jn_slice (js_var rfl) (jo_some jv_c) jo_none).eqN ?_
              rw [cutG_map]
              congr 1
              exact cutG_from R 1
            refine ((jn_mapL (enc := rowD) (R.drop 1) (fun r => rowD (dropCol r k)) s1.nS (by rw [List.length_drop]; omega) fun r hrm => ⟨_, tg_name, ?_⟩).eqN ?_).nD
            · have hl := sm.sq.row r (List.mem_of_mem_drop hrm)
              have a1 : JN K (tSl (rSlL K) (tVar 4) tNoPart (tPart (tVar 2))) [.val false (rowsD R), .val true (.int S), .val true (natD k), .un, .val false (rowD r)] false ((r.take k).map PyData.int) := by
                refine (jn_slice (js_var rfl) jo_none (jo_some (jv_var rfl rfl))).eqN ?_
                rw [cutG_map]
                congr 1
                exact cutG_to r k
              have a2 : JN K (tSl (rSlL K) (tVar 4) (tPart (tOp rAddD (tVar 2) (tC (.int 1)))) tNoPart) [.val false (rowsD R), .val true (.int S), .val true (natD k), .un, .val false (rowD r)] false ((r.drop (k + 1)).map PyData.int) := by
                refine (jn_slice (js_var rfl) (jo_some (jv_add (jv_var rfl rfl) jv_c)) jo_none).eqN ?_
                rw [cutG_map]
                congr 1
                exact cutG_from r (k + 1)
              refine ((jn_cat a1.nS a2.nS ?_).eqN ?_).nD
              · simp only [List.length_map, List.length_take, List.length_drop]
                omega
              · rw [← List.map_append]
                rfl
            · unfold minorL
              rw [List.map_map]
              rfl
          · obtain rfl := rowsD_inj (one_cons e).1
            obtain rfl := sq_uniq sm'.sq s2.sq
            exact po
          · have b0 := sm.bd 0 k (by omega) hk'
            have sg : JV K (tOp (rIx K) (tLst (tCons (tC (.int 1)) (tCons (tUn (rU fun i => .int (-i)) (tC (.int 1))) tNil))) (tOp (rI (fun _ j => 0 < j) fun i j => .int (i % j)) (tVar 2) (tC (.int 2)))) [.val false (rowsD R), .val true (.int S), .val true (natD k), .val true (.int (det n (ent (minorL R k)))), .un] (.int (sgn k)) := by
              refine (Jd.toV (d := .int (sgn k)) ((jd_ixE (enc := PyData.int) (xs := [1, -1]) (k % 2) 0 (n := true) (jn_lst (ja_cons (Jd.int jv_c) (ja_cons (Jd.int (jv_U (g := fun i => .int (-i)) (j := 1) jv_c)) ja_nil)) (by simp)).nS (jv_mod (j := (k : Int)) (k := 2) (jv_var rfl rfl) jv_c (by decide)) (by omega) (by simp; omega)).eqD ?_) rfl)
              congr 1
              unfold sgn
              have : k % 2 = 0 ∨ k % 2 = 1 := by omega
              rcases this with z | z <;> rw [z] <;> rfl
            have sb : (sgn k).natAbs ≤ 1 := by unfold sgn; split <;> decide
            have sb2 : (sgn k * ent R 0 k).natAbs ≤ 2 ^ 504 := by
              rw [Int.natAbs_mul]
              exact Nat.le_trans (Nat.mul_le_mul sb b0) (by decide +kernel)
            refine run_one (run_setI (z := S + sgn k * ent R 0 k * det n (ent (minorL R k))) (jv_add (jv_var rfl rfl) (jv_mulW (jv_mulW sg (g1 _ rfl rfl) (cmul504 (Nat.le_trans sb Nat.one_le_two_pow) (Nat.le_trans b0 (by decide +kernel)))) (jv_var rfl rfl) (cmul504 sb2 db))) (run_loopW (env' := [.val false (rowsD R), .val true (.int (S + sgn k * ent R 0 k * det n (ent (minorL R k)))), .un, .un, .un]) ?_ (by walk_at "less")))
            show _ = [_, Sl.val true (.int (sumTo k _ + sgn k * ent R 0 k * det n (minor (ent R) k))), _, _, _]
            rw [← hS, de]
        · have c' : ent R 0 k = 0 := by simpa using c
          refine run_next (run_loopW (env' := [.val false (rowsD R), .val true (.int S), .un, .un, .un]) ?_ (by walk_at "less"))
          show _ = [_, Sl.val true (.int (sumTo k _ + sgn k * ent R 0 k * det n (minor (ent R) k))), _, _, _]
          rw [← hS, c', Int.mul_zero, Int.zero_mul, Int.add_zero]
      · subst e1
        exact run_ret (jd_var rfl) (ret _ rfl)
def preLwA (ds : List D) : Prop := ∃ (n : Nat) (R : List (List Int)), ds = [rowsD R] ∧ Small n R
theorem ok__law_worth (T : Tx K mg) : FnOk P w K mg base (L2.CX P w) 10 T.a__law_worth T.d__law_worth ["_law_rows_here"] (spD K T.cl [false] true preLwA postLw) :=
  ⟨fun vs H Q E ⟨M, B, ds, wf, rf, ⟨n, R, e, sm⟩, _⟩ => by
    rw [rf.len]
    rfl, fun A outer s H args us vs Q E hr he hb hv ⟨M, B, ds, wf, rf, ⟨n, R, e, sm⟩, q⟩ => ((rec__law_worth T (n + 1)).mono (by have := sm.le; omega)).run A outer s H args us vs Q E hr he hb hv ⟨M, B, ds, wf, rf, ⟨n, R, rfl, e, sm⟩, q⟩⟩

end
end Tr

namespace Tr
open PySem L2 DL TT
local macro_rules | `(tactic| walk_at "jv") => `(tactic| first
  | exact jv_c
  | exact jv_var rfl rfl
  | ((with_reducible refine' jv_add ?a ?b); (case a => walk_at "jv"); (case b => walk_at "jv"))
  | ((with_reducible refine' jv_sub ?a ?b); (case a => walk_at "jv"); (case b => walk_at "jv"))
  | ((with_reducible refine' jv_lt ?a ?b); (case a => walk_at "jv"); (case b => walk_at "jv"))
  | ((with_reducible refine' jv_le ?a ?b); (case a => walk_at "jv"); (case b => walk_at "jv"))
  | ((with_reducible refine' jv_gt ?a ?b); (case a => walk_at "jv"); (case b => walk_at "jv"))
  | ((with_reducible refine' jv_ge ?a ?b); (case a => walk_at "jv"); (case b => walk_at "jv"))
  | ((with_reducible refine' jv_eqI ?a ?b); (case a => walk_at "jv"); (case b => walk_at "jv"))
  | ((with_reducible refine' jv_neI ?a ?b); (case a => walk_at "jv"); (case b => walk_at "jv"))
  | ((with_reducible refine' jv_chain ?a ?b ?c); (case a => walk_at "jv"); (case b => walk_at "jv"); (case c => walk_at "jv"))
  | ((with_reducible refine' jv_not ?a); (case a => walk_at "jv"))
  | ((with_reducible refine' jv_len ?a); (case a => walk_at "js"))
  | ((with_reducible refine' jv_lenU ?a); (case a => walk_at "ju"))
  | ((with_reducible refine' jv_min2 ?a ?b); (case a => walk_at "jv"); (case b => walk_at "jv"))
  | ((with_reducible refine' jv_max2 ?a ?b); (case a => walk_at "jv"); (case b => walk_at "jv"))
  | assumption)
local macro_rules | `(tactic| walk_at "js") => `(tactic| first
  | exact js_var rfl
  | exact js_own rfl
  | exact Jd.lowS (js_var rfl)
  | assumption
  | exact Jd.nS (by assumption))
local macro_rules | `(tactic| walk_at "ju") => `(tactic| first
  | exact ju_var rfl
  | assumption)
local macro_rules | `(tactic| walk_at "jd") => `(tactic| first
  | exact jd_var rfl
  | exact Jd.low (jd_var rfl)
  | exact Jd.low (by assumption)
  | assumption
  | ((refine' Jd.int (Jd.eqV ?a ?b)); (case a => walk_at "jv"); (case b => first | rfl | (congr 1; omega)))
  | ((refine' Jd.bool ?a); (case a => walk_at "jv")))
local macro_rules | `(tactic| walk_at "jf") => `(tactic| first
  | exact jf_nil
  | ((with_reducible refine' jf_cons ?a ?b); (case a => walk_at "jd"); (case b => walk_at "jf")))
local macro_rules | `(tactic| walk_at "less") => `(tactic| first
  | exact LessI.nil
  | (refine LessI.keep ?_; walk_at "less")
  | (refine LessI.drop ?_; walk_at "less"))
local macro_rules | `(tactic| walk_at "loop") => `(tactic| (refine' run_loopW ?x ?y; (case x => exact rfl); (case y => walk_at "less")))

section
variable {P : Program} {w : World} {K : PySem.W.Frag} {mg : Str → Option Value} {base : Heap}

theorem ok_law (T : Tx K mg) : FnOk P w K mg base CX0 11 T.a_law T.d_law ["_law_script"] (spD K T.cl [false] true preLaw postLaw) := by
  refine fnD0 T.F_law sc_law rfl fun cdv A outer s E M B H Q ds hr hp wf ho => ?_
  obtain ⟨ns, rfl, so⟩ := hp
  refine ⟨_, (pss_cons (ps_set (i := 1) sc_law.nd rfl (Or.inl rfl) (pe_call (ok__law_rows T) (hr.mono (by decide)) (by rfl) T.g__law_rows T.F__law_rows.kp T.b__law_rows .nil passL (pa_cons (pv 0) pa_nil)))
      (pss_cons (ps_setLc (i := 2) (own := [("_law_row", 3)]) rfl sc_law.nd rfl rfl (sw_true rfl rfl rfl (by decide +kernel)) (list_pi K rfl (pv 1)) (blkOk_by (own := [("_law_row", 3)]) (N := ["_law_script", "_law_rows_here", "_law_handed", "_law_row", "_law_found"]) (sc := defScope s_law) (by decide +kernel)) (fun _ _ _ _ _ => (pg_name (i := 3) sc_law.nd rfl (Or.inl rfl))) (fun _ _ _ _ _ => pts_nil) (fun _ _ _ _ _ => (pe_callTy (list_K K rfl) (by rfl) T.n_list (by decide +kernel) (pa_cons (pv 3) pa_nil))))
      (pss_cons (ps_set (i := 4) sc_law.nd rfl (Or.inl rfl) (pe_call (ok_worth_of T) (hr.mono (by decide)) (by rfl) T.g_worth_of T.F_worth_of.kp T.b_worth_of .nil passL (pa_cons (pv 2) pa_nil)))
      (pss_cons (ps_if (PW.pt (pw_or (pt_not (pt_val (pe_callB (isi_K K rfl) (by rfl) T.n_isinstance (by decide +kernel) (pa_cons (pv 4) (pa_cons (pe_bltn (v := .ty "int") (by rfl) T.n_int (by decide +kernel) rfl) pa_nil))))) (pw_or (pt_val (pe_callB (isi_K K rfl) (by rfl) T.n_isinstance (by decide +kernel) (pa_cons (pv 4) (pa_cons (pe_bltn (v := .ty "bool") (by rfl) T.n_bool (by decide +kernel) rfl) pa_nil)))) (pw_or1 (pt_cmpR (op_neK K rfl hr.units) (pv 4) (pe_call (ok__law_worth T) (hr.mono (by decide)) (by rfl) T.g__law_worth T.F__law_worth.kp T.b__law_worth .nil passL (pa_cons (pv 1) pa_nil)) (nomark _))))))
      (pss_one (ps_ret pe_bl)) pss_nil)
      (pss_one (ps_ret (pe_cmpR (op_eqK K rfl hr.units) (pv 2) (pv 1) (nomark _)))))))), ?_⟩
  have ret := ho (.val (.bool true)) rfl
  refine run_setP (n := true) (jd_callP (p := fun d => ∃ n R, d = rowsD R ∧ Small n R) (jf_cons (jd_var rfl) jf_nil) ⟨ns, rfl, so⟩ fun out ⟨n, R, n5, rl, rw1, po⟩ => ⟨rowsD R, ⟨n, R, rfl, rw1.small rl (by omega) (by decide)⟩, .inr ⟨_, rfl, po⟩⟩) fun d ⟨n, R, e, sm⟩ => ?_
  subst e
  have rl := sm.sq.len
  have n8 := sm.le
  refine run_set (n := true) (d := rowsD R) ((jn_mapL (enc := rowD) R rowD (js_var rfl) (by omega) fun x hx => ⟨_, tg_name, (Jd.intsN (jn_list (js_var rfl))).nD.eqD rfl⟩).nD) ?_
  have un : ∀ {R' : List (List Int)} {n' : Nat}, [rowsD R] = [rowsD R'] → Sq n' R' → det n' (ent R') = det n (ent R) := fun e s => by
    obtain rfl := rowsD_inj (one_cons e).1
    obtain rfl := sq_uniq sm.sq s
    rfl
  refine run_setI (z := det n (ent R)) (jv_call (d := .int (det n (ent R))) (jf_cons (jd_var rfl).low jf_nil) ⟨n, R, rfl, sm⟩ (fun out ⟨n', R', e, s2, po⟩ => by rw [po, un e s2.sq]) rfl) ?_
  have hv : ∀ env, env[4]? = some (.val true (.int (det n (ent R)))) → JD K (tVar 4) env true (.int (det n (ent R))) := fun env a => jd_var a
  have oR : OkD 2 (rowsD R) := okD_list fun d hd => by
    obtain ⟨r, _, rfl⟩ := List.mem_map.mp hd
    exact okD_ints r
  refine run_if (b := false) (jt_or (b := false) (c := false) ((jt_not (jt_B (jv_isi (hv _ rfl) kb_int_int))).to rfl) fun _ => jt_or (b := false) (c := false) (jt_B (jv_isi (hv _ rfl) kb_int_bool)) fun _ => (jt_test (jv_neI (jv_var rfl rfl) (jv_call (d := .int (det n (ent R))) (jf_cons (jd_var rfl).low jf_nil) ⟨n, R, rfl, sm⟩ (fun out ⟨n', R', e, s2, po⟩ => by rw [po, un e s2.sq]) rfl))).to (by rw [decide_eq_true rfl]; rfl)) (fun e => nomatch e) (fun _ => run_next ?_)
  exact run_retV (v := .bl true) (n := true) (d := .bool true) (jv_eqB (jd_eE (jd_var (n := true) rfl) oR) (jd_eE (jd_var (n := true) rfl) oR) oR oR ⟨fun _ => rfl, fun _ => rfl⟩) rfl ret

end
end Tr

namespace Tr
open PySem L2 DL TT

theorem law_cl {K : PySem.W.Frag} (cl cl2 : XC → Addr) : spD K cl [false] true preLaw postLaw = spD K cl2 [false] true preLaw postLaw := by
  have one : ∀ (a b : XC → Addr) (vs : List V) (H : Hp) (Q : VK) (E : XK), spD K a [false] true preLaw postLaw vs H Q E → spD K b [false] true preLaw postLaw vs H Q E := fun a b vs H Q E ⟨M, B, ds, h1, h2, h3, h4⟩ => ⟨M, B, ds, h1, h2, h3, fun out po => by
    have e : out = .val (.bool true) := po
    have h := h4 out po
    subst e
    exact h⟩
  exact funext fun vs => funext fun H => funext fun Q => funext fun E => propext ⟨one cl cl2 vs H Q E, one cl2 cl vs H Q E⟩
theorem all_mk {P : Program} {w : World} {K : PySem.W.Frag} {h : Heap} {mg : Str → Option Value} {fa : Addr} (X : K.In h) (G : h.Ns mainGlobals mg) (hfa : mg "law" = some (.ref fa))
    {f_first_row : Addr} {od_first_row an_first_row : Option Addr} {sl_first_row : Array (Option Value)} {oc_first_row kV_first_row dc_first_row pm_first_row cd_first_row ct_first_row : Value}
    (a_first_row : PySem.W.nsIn K mainGlobals "first_row" = some (some (.ref f_first_row))) (l_first_row : K.lookup f_first_row = some ⟨oc_first_row, od_first_row, .func (PySem.W.fnOf "first_row" "first_row" (defArgs s_first_row) (defBody s_first_row) (defScope s_first_row) .none kV_first_row dc_first_row pm_first_row an_first_row cd_first_row ct_first_row), sl_first_row⟩) (c_first_row : PySem.W.codeIn K cd_first_row "first_row" = true) (k_first_row : PySem.W.keepIn K (.ref f_first_row) = true)
    {f_swept : Addr} {od_swept an_swept : Option Addr} {sl_swept : Array (Option Value)} {oc_swept kV_swept dc_swept pm_swept cd_swept ct_swept : Value}
    (a_swept : PySem.W.nsIn K mainGlobals "swept" = some (some (.ref f_swept))) (l_swept : K.lookup f_swept = some ⟨oc_swept, od_swept, .func (PySem.W.fnOf "swept" "swept" (defArgs s_swept) (defBody s_swept) (defScope s_swept) .none kV_swept dc_swept pm_swept an_swept cd_swept ct_swept), sl_swept⟩) (c_swept : PySem.W.codeIn K cd_swept "swept" = true) (k_swept : PySem.W.keepIn K (.ref f_swept) = true)
    {f_worth_of : Addr} {od_worth_of an_worth_of : Option Addr} {sl_worth_of : Array (Option Value)} {oc_worth_of kV_worth_of dc_worth_of pm_worth_of cd_worth_of ct_worth_of : Value}
    (a_worth_of : PySem.W.nsIn K mainGlobals "worth_of" = some (some (.ref f_worth_of))) (l_worth_of : K.lookup f_worth_of = some ⟨oc_worth_of, od_worth_of, .func (PySem.W.fnOf "worth_of" "worth_of" (defArgs s_worth_of) (defBody s_worth_of) (defScope s_worth_of) .none kV_worth_of dc_worth_of pm_worth_of an_worth_of cd_worth_of ct_worth_of), sl_worth_of⟩) (c_worth_of : PySem.W.codeIn K cd_worth_of "worth_of" = true) (k_worth_of : PySem.W.keepIn K (.ref f_worth_of) = true)
    {f__law_cell_at : Addr} {od__law_cell_at an__law_cell_at : Option Addr} {sl__law_cell_at : Array (Option Value)} {oc__law_cell_at kV__law_cell_at dc__law_cell_at pm__law_cell_at cd__law_cell_at ct__law_cell_at : Value}
    (a__law_cell_at : PySem.W.nsIn K mainGlobals "_law_cell_at" = some (some (.ref f__law_cell_at))) (l__law_cell_at : K.lookup f__law_cell_at = some ⟨oc__law_cell_at, od__law_cell_at, .func (PySem.W.fnOf "_law_cell_at" "_law_cell_at" (defArgs s__law_cell_at) (defBody s__law_cell_at) (defScope s__law_cell_at) .none kV__law_cell_at dc__law_cell_at pm__law_cell_at an__law_cell_at cd__law_cell_at ct__law_cell_at), sl__law_cell_at⟩) (c__law_cell_at : PySem.W.codeIn K cd__law_cell_at "_law_cell_at" = true) (k__law_cell_at : PySem.W.keepIn K (.ref f__law_cell_at) = true)
    {f__law_mixed : Addr} {od__law_mixed an__law_mixed : Option Addr} {sl__law_mixed : Array (Option Value)} {oc__law_mixed kV__law_mixed dc__law_mixed pm__law_mixed cd__law_mixed ct__law_mixed : Value}
    (a__law_mixed : PySem.W.nsIn K mainGlobals "_law_mixed" = some (some (.ref f__law_mixed))) (l__law_mixed : K.lookup f__law_mixed = some ⟨oc__law_mixed, od__law_mixed, .func (PySem.W.fnOf "_law_mixed" "_law_mixed" (defArgs s__law_mixed) (defBody s__law_mixed) (defScope s__law_mixed) .none kV__law_mixed dc__law_mixed pm__law_mixed an__law_mixed cd__law_mixed ct__law_mixed), sl__law_mixed⟩) (c__law_mixed : PySem.W.codeIn K cd__law_mixed "_law_mixed" = true) (k__law_mixed : PySem.W.keepIn K (.ref f__law_mixed) = true)
    {f__law_number : Addr} {od__law_number an__law_number : Option Addr} {sl__law_number : Array (Option Value)} {oc__law_number kV__law_number dc__law_number pm__law_number cd__law_number ct__law_number : Value}
    (a__law_number : PySem.W.nsIn K mainGlobals "_law_number" = some (some (.ref f__law_number))) (l__law_number : K.lookup f__law_number = some ⟨oc__law_number, od__law_number, .func (PySem.W.fnOf "_law_number" "_law_number" (defArgs s__law_number) (defBody s__law_number) (defScope s__law_number) .none kV__law_number dc__law_number pm__law_number an__law_number cd__law_number ct__law_number), sl__law_number⟩) (c__law_number : PySem.W.codeIn K cd__law_number "_law_number" = true) (k__law_number : PySem.W.keepIn K (.ref f__law_number) = true)
    {f__law_rows : Addr} {od__law_rows an__law_rows : Option Addr} {sl__law_rows : Array (Option Value)} {oc__law_rows kV__law_rows dc__law_rows pm__law_rows cd__law_rows ct__law_rows : Value}
    (a__law_rows : PySem.W.nsIn K mainGlobals "_law_rows" = some (some (.ref f__law_rows))) (l__law_rows : K.lookup f__law_rows = some ⟨oc__law_rows, od__law_rows, .func (PySem.W.fnOf "_law_rows" "_law_rows" (defArgs s__law_rows) (defBody s__law_rows) (defScope s__law_rows) .none kV__law_rows dc__law_rows pm__law_rows an__law_rows cd__law_rows ct__law_rows), sl__law_rows⟩) (c__law_rows : PySem.W.codeIn K cd__law_rows "_law_rows" = true) (k__law_rows : PySem.W.keepIn K (.ref f__law_rows) = true)
    {f__law_worth : Addr} {od__law_worth an__law_worth : Option Addr} {sl__law_worth : Array (Option Value)} {oc__law_worth kV__law_worth dc__law_worth pm__law_worth cd__law_worth ct__law_worth : Value}
    (a__law_worth : PySem.W.nsIn K mainGlobals "_law_worth" = some (some (.ref f__law_worth))) (l__law_worth : K.lookup f__law_worth = some ⟨oc__law_worth, od__law_worth, .func (PySem.W.fnOf "_law_worth" "_law_worth" (defArgs s__law_worth) (defBody s__law_worth) (defScope s__law_worth) .none kV__law_worth dc__law_worth pm__law_worth an__law_worth cd__law_worth ct__law_worth), sl__law_worth⟩) (c__law_worth : PySem.W.codeIn K cd__law_worth "_law_worth" = true) (k__law_worth : PySem.W.keepIn K (.ref f__law_worth) = true)
    {f_law : Addr} {od_law an_law : Option Addr} {sl_law : Array (Option Value)} {oc_law kV_law dc_law pm_law cd_law ct_law : Value}
    (a_law : PySem.W.nsIn K mainGlobals "law" = some (some (.ref f_law))) (l_law : K.lookup f_law = some ⟨oc_law, od_law, .func (PySem.W.fnOf "law" "law" (defArgs s_law) (defBody s_law) (defScope s_law) .none kV_law dc_law pm_law an_law cd_law ct_law), sl_law⟩) (c_law : PySem.W.codeIn K cd_law "law" = true) (k_law : PySem.W.keepIn K (.ref f_law) = true)
    (z_bool : PySem.W.nsIn K mainGlobals "bool" = some none)
    (z_int : PySem.W.nsIn K mainGlobals "int" = some none)
    (z_isinstance : PySem.W.nsIn K mainGlobals "isinstance" = some none)
    (z_len : PySem.W.nsIn K mainGlobals "len" = some none)
    (z_list : PySem.W.nsIn K mainGlobals "list" = some none)
    (z_max : PySem.W.nsIn K mainGlobals "max" = some none)
    (z_min : PySem.W.nsIn K mainGlobals "min" = some none)
    (z_range : PySem.W.nsIn K mainGlobals "range" = some none)
    : ∃ fd : FuncData, (∀ (s : Shared) (v : Value), BindsTo s fd ⟨[v], []⟩ [("_law_script", v)]) ∧ ∀ base : Heap, K.In base → base.Ns mainGlobals mg → FnOk P w K mg base CX0 11 fa fd ["_law_script"] (spD K (fun _ => 0) [false] true preLaw postLaw) := by
  have e := hfa.symm.trans (PySem.W.mg_of X G a_law)
  cases e
  have F_first_row := fun_mk (st := s_first_row) l_first_row c_first_row k_first_row
  have F_swept := fun_mk (st := s_swept) l_swept c_swept k_swept
  have F_worth_of := fun_mk (st := s_worth_of) l_worth_of c_worth_of k_worth_of
  have F__law_cell_at := fun_mk (st := s__law_cell_at) l__law_cell_at c__law_cell_at k__law_cell_at
  have F__law_mixed := fun_mk (st := s__law_mixed) l__law_mixed c__law_mixed k__law_mixed
  have F__law_number := fun_mk (st := s__law_number) l__law_number c__law_number k__law_number
  have F__law_rows := fun_mk (st := s__law_rows) l__law_rows c__law_rows k__law_rows
  have F__law_worth := fun_mk (st := s__law_worth) l__law_worth c__law_worth k__law_worth
  have F_law := fun_mk (st := s_law) l_law c_law k_law
  let T : Tx K mg := {
    cl := fun _ => 0
    n_bool := PySem.W.mg_none_of X G z_bool
    n_int := PySem.W.mg_none_of X G z_int
    n_isinstance := PySem.W.mg_none_of X G z_isinstance
    n_len := PySem.W.mg_none_of X G z_len
    n_list := PySem.W.mg_none_of X G z_list
    n_max := PySem.W.mg_none_of X G z_max
    n_min := PySem.W.mg_none_of X G z_min
    n_range := PySem.W.mg_none_of X G z_range
    a_first_row := f_first_row
    d_first_row := _
    F_first_row := F_first_row
    g_first_row := PySem.W.mg_of X G a_first_row
    b_first_row := F_first_row.binds fun _ _ _ _ _ _ us hl => match us, hl with | [_, _], _ => rfl
    a_swept := f_swept
    d_swept := _
    F_swept := F_swept
    g_swept := PySem.W.mg_of X G a_swept
    b_swept := F_swept.binds fun _ _ _ _ _ _ us hl => match us, hl with | [_, _, _], _ => rfl
    a_worth_of := f_worth_of
    d_worth_of := _
    F_worth_of := F_worth_of
    g_worth_of := PySem.W.mg_of X G a_worth_of
    b_worth_of := F_worth_of.binds fun _ _ _ _ _ _ us hl => match us, hl with | [_], _ => rfl
    a__law_cell_at := f__law_cell_at
    d__law_cell_at := _
    F__law_cell_at := F__law_cell_at
    g__law_cell_at := PySem.W.mg_of X G a__law_cell_at
    b__law_cell_at := F__law_cell_at.binds fun _ _ _ _ _ _ us hl => match us, hl with | [_, _], _ => rfl
    a__law_mixed := f__law_mixed
    d__law_mixed := _
    F__law_mixed := F__law_mixed
    g__law_mixed := PySem.W.mg_of X G a__law_mixed
    b__law_mixed := F__law_mixed.binds fun _ _ _ _ _ _ us hl => match us, hl with | [_, _], _ => rfl
    a__law_number := f__law_number
    d__law_number := _
    F__law_number := F__law_number
    g__law_number := PySem.W.mg_of X G a__law_number
    b__law_number := F__law_number.binds fun _ _ _ _ _ _ us hl => match us, hl with | [_, _, _], _ => rfl
    a__law_rows := f__law_rows
    d__law_rows := _
    F__law_rows := F__law_rows
    g__law_rows := PySem.W.mg_of X G a__law_rows
    b__law_rows := F__law_rows.binds fun _ _ _ _ _ _ us hl => match us, hl with | [_], _ => rfl
    a__law_worth := f__law_worth
    d__law_worth := _
    F__law_worth := F__law_worth
    g__law_worth := PySem.W.mg_of X G a__law_worth
    b__law_worth := F__law_worth.binds fun _ _ _ _ _ _ us hl => match us, hl with | [_], _ => rfl
    a_law := fa
    d_law := _
    F_law := F_law
    g_law := PySem.W.mg_of X G a_law
    b_law := F_law.binds fun _ _ _ _ _ _ us hl => match us, hl with | [_], _ => rfl }
  refine ⟨PySem.W.fnOf "law" "law" (defArgs s_law) (defBody s_law) (defScope s_law) .none kV_law dc_law pm_law an_law cd_law ct_law, fun s v => .of_eq rfl, fun base _ _ => ?_⟩
  rw [law_cl (fun _ => 0) T.cl]
  exact ok_law T
end Tr
open PySem PySem.W PyProof.Rows
set_option maxHeartbeats 0 in
theorem PySem.Challenge.cw_treetally_k04_worths_by_first_rows_holds : PySem.Challenge.rw_treetally_k04_worths_by_first_rows.Holds := by
  w_on; o_law; k_head; (case hw => w_witness2)
  k_fill
  refine L2.walk_ofB (l := PySem.Challenge.rw_treetally_k04_worths_by_first_rows) (n := 63) (k := 11) (x := "_law_script") (CX := fun _ => L2.CX0) (sp := fun w => DL.spD _ (fun _ => 0) [false] true DL.preLaw DL.postLaw) rfl (by decide) rfl ⟨rfl, by decide, by decide⟩ (fun w h Y => PySem.W.kIn_of Y) ?F (fun w H a ns h1 h2 _ hS => DL.law_sp h1 h2 hS) (fun _ _ _ _ _ h => h)
  case F =>
    intro w mg fa h KX G hmg
    refine' Tr.all_mk KX G hmg ?a_first_row ?l_first_row ?c_first_row ?k_first_row ?a_swept ?l_swept ?c_swept ?k_swept ?a_worth_of ?l_worth_of ?c_worth_of ?k_worth_of ?a__law_cell_at ?l__law_cell_at ?c__law_cell_at ?k__law_cell_at ?a__law_mixed ?l__law_mixed ?c__law_mixed ?k__law_mixed ?a__law_number ?l__law_number ?c__law_number ?k__law_number ?a__law_rows ?l__law_rows ?c__law_rows ?k__law_rows ?a__law_worth ?l__law_worth ?c__law_worth ?k__law_worth ?a_law ?l_law ?c_law ?k_law ?z_bool ?z_int ?z_isinstance ?z_len ?z_list ?z_max ?z_min ?z_range
    (case a_first_row => k_is)
    (case l_first_row => k_is)
    (case c_first_row => k_is)
    (case k_first_row => k_is)
    (case a_swept => k_is)
    (case l_swept => k_is)
    (case c_swept => k_is)
    (case k_swept => k_is)
    (case a_worth_of => k_is)
    (case l_worth_of => k_is)
    (case c_worth_of => k_is)
    (case k_worth_of => k_is)
    (case a__law_cell_at => k_is)
    (case l__law_cell_at => k_is)
    (case c__law_cell_at => k_is)
    (case k__law_cell_at => k_is)
    (case a__law_mixed => k_is)
    (case l__law_mixed => k_is)
    (case c__law_mixed => k_is)
    (case k__law_mixed => k_is)
    (case a__law_number => k_is)
    (case l__law_number => k_is)
    (case c__law_number => k_is)
    (case k__law_number => k_is)
    (case a__law_rows => k_is)
    (case l__law_rows => k_is)
    (case c__law_rows => k_is)
    (case k__law_rows => k_is)
    (case a__law_worth => k_is)
    (case l__law_worth => k_is)
    (case c__law_worth => k_is)
    (case k__law_worth => k_is)
    (case a_law => k_is)
    (case l_law => k_is)
    (case c_law => k_is)
    (case k_law => k_is)
    (case z_bool => k_is)
    (case z_int => k_is)
    (case z_isinstance => k_is)
    (case z_len => k_is)
    (case z_list => k_is)
    (case z_max => k_is)
    (case z_min => k_is)
    (case z_range => k_is)
