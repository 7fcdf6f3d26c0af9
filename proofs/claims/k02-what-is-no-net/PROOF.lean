import PyProof.Rows.All
import HandS.EndBits
import Wide.All
import OpenK.AllK
import Wide.FinOn
import HandS.ForMost
import HandS.ForExc
import HandS.Wide
import HandS.IsInst
import HandS.Conv
import HandS.Deep
import HandS.Iter
import HandS.Style
import HandS.Strs
import HandS.SetFor
import KE.DataMinMax
import HandS.Zip
import HandS.Walk
import HandS.Sort
import HandS.HotCalls
import HandS.ExcIs
import HandS.TryOnly
import KE.DataFind
import KE.DatumOrd
import PyProof.ReprLen
import PySem.Challenge.RW_treetally_k02_what_is_no_net
set_option Elab.async false
set_option linter.all false
set_option maxRecDepth 100000
set_option maxHeartbeats 4000000

/-! nets: what hangs together -/
namespace TT
abbrev Tie := Nat × Nat
/-- ties lead from a to b -/
inductive Cn (ts : List Tie) : Nat → Nat → Prop
  | refl (a : Nat) : Cn ts a a
  | step {a b c : Nat} : Cn ts a b → (b, c) ∈ ts ∨ (c, b) ∈ ts → Cn ts a c
namespace Cn
variable {ts us : List Tie} {a b c : Nat}
theorem trans (h : Cn ts a b) (k : Cn ts b c) : Cn ts a c := by
  induction k with
  | refl => exact h
  | step _ e ih => exact .step ih e
theorem tie (h : (a, b) ∈ ts) : Cn ts a b := .step (.refl a) (.inl h)
theorem symm (h : Cn ts a b) : Cn ts b a := by
  induction h with
  | refl => exact .refl _
  | step _ e ih => exact Cn.trans (.step (.refl _) e.symm) ih
theorem mono (h : Cn ts a b) (k : ∀ t, t ∈ ts → t ∈ us) : Cn us a b := by
  induction h with
  | refl => exact .refl _
  | step _ e ih => exact .step ih (e.imp (k _) (k _))
theorem nil (h : Cn [] a b) : a = b := by
  induction h with
  | refl => rfl
  | step _ e ih => rcases e with e | e <;> cases e
/-- with one tie more -/
theorem cons {x y : Nat} (h : Cn ((x, y) :: ts) a b) : Cn ts a b ∨ (Cn ts a x ∧ Cn ts y b) ∨ (Cn ts a y ∧ Cn ts x b) := by
  induction h with
  | refl => exact .inl (.refl _)
  | @step p q _ e ih =>
    have one : ∀ {p q : Nat}, (p, q) ∈ (x, y) :: ts → (p = x ∧ q = y) ∨ (p, q) ∈ ts := fun {p q} h => by
      rcases List.mem_cons.mp h with h | h
      · exact .inl ⟨congrArg Prod.fst h, congrArg Prod.snd h⟩
      · exact .inr h
    have e' : ((p = x ∧ q = y) ∨ (p = y ∧ q = x)) ∨ ((p, q) ∈ ts ∨ (q, p) ∈ ts) := by
      rcases e with e | e
      · rcases one e with e | e
        · exact .inl (.inl e)
        · exact .inr (.inl e)
      · rcases one e with e | e
        · exact .inl (.inr ⟨e.2, e.1⟩)
        · exact .inr (.inr e)
    rcases e' with (⟨rfl, rfl⟩ | ⟨rfl, rfl⟩) | e
    · rcases ih with h | ⟨h, _⟩ | ⟨h, _⟩
      · exact .inr (.inl ⟨h, .refl _⟩)
      · exact .inr (.inl ⟨h, .refl _⟩)
      · exact .inl h
    · rcases ih with h | ⟨h, _⟩ | ⟨h, _⟩
      · exact .inr (.inr ⟨h, .refl _⟩)
      · exact .inl h
      · exact .inr (.inr ⟨h, .refl _⟩)
    · rcases ih with h | ⟨h, k⟩ | ⟨h, k⟩
      · exact .inl (.step h e)
      · exact .inr (.inl ⟨h, .step k e⟩)
      · exact .inr (.inr ⟨h, .step k e⟩)
theorem of_cons {x y : Nat} (h : Cn ts a b ∨ (Cn ts a x ∧ Cn ts y b) ∨ (Cn ts a y ∧ Cn ts x b)) : Cn ((x, y) :: ts) a b := by
  have w : ∀ {p q : Nat}, Cn ts p q → Cn ((x, y) :: ts) p q := fun h => h.mono fun _ => List.mem_cons_of_mem _
  have e : Cn ((x, y) :: ts) x y := tie List.mem_cons_self
  rcases h with h | ⟨h, k⟩ | ⟨h, k⟩
  · exact w h
  · exact (w h).trans (e.trans (w k))
  · exact (w h).trans (e.symm.trans (w k))
theorem cons_iff {x y : Nat} : Cn ((x, y) :: ts) a b ↔ Cn ts a b ∨ (Cn ts a x ∧ Cn ts y b) ∨ (Cn ts a y ∧ Cn ts x b) := ⟨cons, of_cons⟩
theorem iff_of_mem (k : ∀ t, t ∈ ts ↔ t ∈ us) : Cn ts a b ↔ Cn us a b := ⟨fun h => h.mono fun t => (k t).mp, fun h => h.mono fun t => (k t).mpr⟩
/-- places stay below n -/
theorem lt {n : Nat} (hb : ∀ t, t ∈ ts → t.1 < n ∧ t.2 < n) (h : Cn ts a b) (ha : a < n) : b < n := by
  induction h with
  | refl => exact ha
  | step _ e _ => rcases e with e | e
                  · exact (hb _ e).2
                  · exact (hb _ e).1
end Cn
/-- what the program's marks do at one tie -/
def mstep (m : List Nat) (t : Tie) : List Nat := m.map fun v => if v = max (m.getD t.1 0) (m.getD t.2 0) then min (m.getD t.1 0) (m.getD t.2 0) else v
def marks (n : Nat) (ts : List Tie) : List Nat := ts.foldl mstep (List.range n)
/-- marks as they stand behind the ties ts -/
structure MkOk (n : Nat) (ts : List Tie) (m : List Nat) : Prop where
  len : m.length = n
  le : ∀ a, a < n → m.getD a 0 ≤ a
  own : ∀ a, a < n → Cn ts a (m.getD a 0)
  iff : ∀ a b, a < n → b < n → (m.getD a 0 = m.getD b 0 ↔ Cn ts a b)
theorem getD_map {α β : Type} (f : α → β) : ∀ (l : List α) (i : Nat) (d : α) (e : β), i < l.length → (l.map f).getD i e = f (l.getD i d)
  | [], i, _, _, h => absurd h (Nat.not_lt_zero i)
  | x :: l, 0, _, _, _ => rfl
  | x :: l, i + 1, d, e, h => getD_map f l i d e (Nat.lt_of_succ_lt_succ h)
theorem getD_range {n i : Nat} (h : i < n) : (List.range n).getD i 0 = i := by
  rw [List.getD_eq_getElem?_getD, List.getElem?_range h]; rfl
theorem MkOk.start (n : Nat) : MkOk n [] (List.range n) where
  len := List.length_range
  le := fun a h => by rw [getD_range h]; exact Nat.le_refl a
  own := fun a h => by rw [getD_range h]; exact .refl a
  iff := fun a b ha hb => by
    rw [getD_range ha, getD_range hb]
    exact ⟨fun e => e ▸ .refl a, fun h => h.nil⟩
theorem MkOk.turn {n : Nat} {ts : List Tie} {m : List Nat} (M : MkOk n ts m) {t : Tie} (h1 : t.1 < n) (h2 : t.2 < n) : MkOk n (t :: ts) (mstep m t) := by
  obtain ⟨x, y⟩ := t
  have g : ∀ a, a < n → (mstep m (x, y)).getD a 0 = if m.getD a 0 = max (m.getD x 0) (m.getD y 0) then min (m.getD x 0) (m.getD y 0) else m.getD a 0 := fun a ha => getD_map _ m a 0 0 (by rw [M.len]; exact ha)
  have h1 : x < n := h1
  have h2 : y < n := h2
  have up : ∀ {p q : Nat}, Cn ts p q → Cn ((x, y) :: ts) p q := fun h => h.mono fun _ => List.mem_cons_of_mem _
  have xy : Cn ((x, y) :: ts) x y := .tie List.mem_cons_self
  refine ⟨by unfold mstep; rw [List.length_map]; exact M.len, fun a ha => ?_, fun a ha => ?_, fun a b ha hb => ?_⟩
  · rw [g a ha]
    have := M.le a ha
    split
    · rename_i e
      omega
    · exact this
  · rw [g a ha]
    split
    · rename_i e
      rcases Nat.le_total (m.getD x 0) (m.getD y 0) with l | l
      · rw [Nat.max_eq_right l] at e
        rw [Nat.min_eq_left l]
        have q := (M.iff a y ha h2).mp e
        exact (up q).trans (xy.symm.trans (up (M.own x h1)))
      · rw [Nat.max_eq_left l] at e
        rw [Nat.min_eq_right l]
        have q := (M.iff a x ha h1).mp e
        exact (up q).trans (xy.trans (up (M.own y h2)))
    · exact up (M.own a ha)
  · rw [g a ha, g b hb, Cn.cons_iff, ← M.iff a b ha hb, ← M.iff a x ha h1, ← M.iff y b h2 hb, ← M.iff a y ha h2, ← M.iff x b h1 hb]
    generalize m.getD a 0 = A
    generalize m.getD b 0 = B
    generalize m.getD x 0 = X
    generalize m.getD y 0 = Y
    rcases Nat.le_total X Y with l | l
    · rw [Nat.max_eq_right l, Nat.min_eq_left l]
      repeat' split
      all_goals omega
    · rw [Nat.max_eq_left l, Nat.min_eq_right l]
      repeat' split
      all_goals omega
theorem MkOk.perm {n : Nat} {ts us : List Tie} {m : List Nat} (M : MkOk n ts m) (k : ∀ t, t ∈ ts ↔ t ∈ us) : MkOk n us m :=
  ⟨M.len, M.le, fun a h => (Cn.iff_of_mem k).mp (M.own a h), fun a b h h' => (M.iff a b h h').trans (Cn.iff_of_mem k)⟩
theorem marks_fold {n : Nat} : ∀ (us ts : List Tie) (m : List Nat), MkOk n ts m → (∀ t, t ∈ us → t.1 < n ∧ t.2 < n) → MkOk n (us.reverse ++ ts) (us.foldl mstep m)
  | [], _, _, M, _ => M
  | t :: us, ts, m, M, h => by
    have q := marks_fold us (t :: ts) (mstep m t) (M.turn (h t List.mem_cons_self).1 (h t List.mem_cons_self).2) fun t ht => h t (List.mem_cons_of_mem _ ht)
    rw [List.reverse_cons, List.append_assoc]
    exact q
theorem marks_ok {n : Nat} {ts : List Tie} (h : ∀ t, t ∈ ts → t.1 < n ∧ t.2 < n) : MkOk n ts (marks n ts) :=
  (marks_fold ts [] (List.range n) (MkOk.start n) h).perm fun t => by rw [List.append_nil, List.mem_reverse]
/-- all places hang together -/
def Conn (n : Nat) (ts : List Tie) : Prop := ∀ a, a < n → Cn ts 0 a
end TT

/-! determinants by the first row, in plain Lean -/
namespace TT
def sumTo : Nat → (Nat → Int) → Int
  | 0, _ => 0
  | n + 1, f => sumTo n f + f n
theorem sumTo_congr : ∀ {n : Nat} {f g : Nat → Int}, (∀ i, i < n → f i = g i) → sumTo n f = sumTo n g
  | 0, _, _, _ => rfl
  | n + 1, f, g, h => by
    show sumTo n f + f n = sumTo n g + g n
    rw [sumTo_congr (fun i hi => h i (Nat.lt_succ_of_lt hi)), h n (Nat.lt_succ_self n)]
theorem sumTo_zero : ∀ {n : Nat} {f : Nat → Int}, (∀ i, i < n → f i = 0) → sumTo n f = 0
  | 0, _, _ => rfl
  | n + 1, f, h => by
    show sumTo n f + f n = 0
    rw [sumTo_zero (fun i hi => h i (Nat.lt_succ_of_lt hi)), h n (Nat.lt_succ_self n)]
    rfl
theorem sumTo_add : ∀ (n : Nat) (f g : Nat → Int), sumTo n (fun i => f i + g i) = sumTo n f + sumTo n g
  | 0, _, _ => rfl
  | n + 1, f, g => by
    show sumTo n (fun i => f i + g i) + (f n + g n) = (sumTo n f + f n) + (sumTo n g + g n)
    rw [sumTo_add n f g]; omega
theorem sumTo_mul : ∀ (n : Nat) (a : Int) (f : Nat → Int), sumTo n (fun i => a * f i) = a * sumTo n f
  | 0, a, _ => (Int.mul_zero a).symm
  | n + 1, a, f => by
    show sumTo n (fun i => a * f i) + a * f n = a * (sumTo n f + f n)
    rw [sumTo_mul n a f, Int.mul_add]
theorem sumTo_neg (n : Nat) (f : Nat → Int) : sumTo n (fun i => - f i) = - sumTo n f := by
  have h := sumTo_mul n (-1) f
  have e : (fun i => (-1 : Int) * f i) = fun i => - f i := funext fun i => by rw [Int.neg_one_mul]
  rw [e] at h
  rw [h, Int.neg_one_mul]
theorem sumTo_comm : ∀ (n m : Nat) (f : Nat → Nat → Int), sumTo n (fun i => sumTo m (f i)) = sumTo m (fun j => sumTo n (fun i => f i j))
  | 0, m, _ => (sumTo_zero (n := m) fun _ _ => rfl).symm
  | n + 1, m, f => by
    show sumTo n (fun i => sumTo m (f i)) + sumTo m (f n) = sumTo m (fun j => sumTo n (fun i => f i j) + f n j)
    rw [sumTo_comm n m f, sumTo_add]
theorem sumTo_one : ∀ {n c : Nat} {f : Nat → Int}, c < n → (∀ i, i < n → i ≠ c → f i = 0) → sumTo n f = f c
  | 0, c, _, h, _ => absurd h (Nat.not_lt_zero c)
  | n + 1, c, f, h, hz => by
    show sumTo n f + f n = f c
    by_cases e : c = n
    · subst e
      rw [sumTo_zero (fun i hi => hz i (Nat.lt_succ_of_lt hi) (Nat.ne_of_lt hi))]; omega
    · rw [sumTo_one (c := c) (by omega) (fun i hi => hz i (Nat.lt_succ_of_lt hi)), hz n (Nat.lt_succ_self n) (fun z => e z.symm)]; omega
/-- one shifted -/
theorem sumTo_succ' : ∀ (n : Nat) (f : Nat → Int), sumTo (n + 1) f = f 0 + sumTo n (fun i => f (i + 1))
  | 0, f => by show 0 + f 0 = f 0 + 0; omega
  | n + 1, f => by
    show sumTo (n + 1) f + f (n + 1) = f 0 + (sumTo n (fun i => f (i + 1)) + f (n + 1))
    rw [sumTo_succ' n f]; omega

/-- the place j when place c is left out -/
def skip (c j : Nat) : Nat := if j < c then j else j + 1
def unskip (c j : Nat) : Nat := if j < c then j else j - 1
theorem skip_ne (c j : Nat) : skip c j ≠ c := by unfold skip; split <;> omega
theorem unskip_skip (c j : Nat) : unskip c (skip c j) = j := by
  unfold skip unskip
  repeat' split
  all_goals omega
theorem skip_unskip {c j : Nat} (h : j ≠ c) : skip c (unskip c j) = j := by
  unfold skip unskip
  repeat' split
  all_goals omega
theorem skip_lt {c j n : Nat} (h : j < n) : skip c j < n + 1 := by unfold skip; split <;> omega
theorem unskip_lt {c j n : Nat} (hc : c < n + 1) (h : j < n + 1) (hne : j ≠ c) : unskip c j < n := by unfold unskip; split <;> omega
theorem skip_inj {c i j : Nat} (h : skip c i = skip c j) : i = j := by rw [← unskip_skip c i, h, unskip_skip]
theorem sumTo_skip : ∀ (n c : Nat) (f : Nat → Int), c < n + 1 → sumTo n (fun d => f (skip c d)) = sumTo (n + 1) f - f c
  | 0, c, f, h => by
    obtain rfl : c = 0 := by omega
    show (0 : Int) = 0 + f 0 - f 0
    omega
  | n + 1, c, f, h => by
    by_cases e : c = n + 1
    · subst e
      have q : sumTo (n + 1) (fun d => f (skip (n + 1) d)) = sumTo (n + 1) f := sumTo_congr fun i hi => by unfold skip; rw [if_pos hi]
      rw [q]
      show sumTo (n + 1) f = sumTo (n + 1) f + f (n + 1) - f (n + 1)
      omega
    · have ih := sumTo_skip n c f (by omega)
      have q : skip c n = n + 1 := by unfold skip; rw [if_neg (by omega)]
      show sumTo n (fun d => f (skip c d)) + f (skip c n) = sumTo (n + 1) f + f (n + 1) - f c
      rw [ih, q]; omega

def sgn (c : Nat) : Int := if c % 2 = 0 then 1 else -1
theorem sgn_succ (c : Nat) : sgn (c + 1) = - sgn c := by
  unfold sgn
  by_cases h : c % 2 = 0
  · rw [if_pos h, if_neg (by omega)]
  · rw [if_neg h, if_pos (by omega)]; rfl
theorem sgn_sq (c : Nat) : sgn c * sgn c = 1 := by unfold sgn; split <;> rfl
abbrev Mat := Nat → Nat → Int
/-- what is left of M without row 0 and column c -/
def minor (M : Mat) (c : Nat) : Mat := fun i j => M (i + 1) (skip c j)
def det : Nat → Mat → Int
  | 0, _ => 1
  | n + 1, M => sumTo (n + 1) fun c => sgn c * M 0 c * det n (minor M c)
theorem det_succ (n : Nat) (M : Mat) : det (n + 1) M = sumTo (n + 1) fun c => sgn c * M 0 c * det n (minor M c) := rfl
theorem det_congr : ∀ {n : Nat} {M N : Mat}, (∀ i j, i < n → j < n → M i j = N i j) → det n M = det n N
  | 0, _, _, _ => rfl
  | n + 1, M, N, h => by
    rw [det_succ, det_succ]
    refine sumTo_congr fun c hc => ?_
    rw [h 0 c (Nat.succ_pos n) hc, det_congr (n := n) (M := minor M c) (N := minor N c) fun i j hi hj => h (i + 1) (skip c j) (Nat.succ_lt_succ hi) (skip_lt hj)]
/-- row r is u -/
def setRow (M : Mat) (r : Nat) (u : Nat → Int) : Mat := fun i j => if i = r then u j else M i j
theorem minor_set0 (M : Mat) (u : Nat → Int) (c : Nat) : minor (setRow M 0 u) c = minor M c := by
  funext i j
  show (if i + 1 = 0 then u (skip c j) else M (i + 1) (skip c j)) = M (i + 1) (skip c j)
  rw [if_neg (Nat.succ_ne_zero i)]
theorem minor_setS (M : Mat) (r : Nat) (u : Nat → Int) (c : Nat) : minor (setRow M (r + 1) u) c = setRow (minor M c) r (fun j => u (skip c j)) := by
  funext i j
  show (if i + 1 = r + 1 then u (skip c j) else M (i + 1) (skip c j)) = if i = r then u (skip c j) else M (i + 1) (skip c j)
  by_cases h : i = r
  · rw [if_pos h, if_pos (by omega)]
  · rw [if_neg h, if_neg (by omega)]
/-- linear in every row -/
theorem det_lin : ∀ (n r : Nat) (M : Mat) (a b : Int) (u v : Nat → Int), r < n → det n (setRow M r fun j => a * u j + b * v j) = a * det n (setRow M r u) + b * det n (setRow M r v)
  | 0, r, _, _, _, _, _, h => absurd h (Nat.not_lt_zero r)
  | n + 1, 0, M, a, b, u, v, _ => by
    rw [det_succ, det_succ, det_succ, ← sumTo_mul, ← sumTo_mul, ← sumTo_add]
    refine sumTo_congr fun c _ => ?_
    rw [minor_set0, minor_set0, minor_set0]
    show sgn c * (a * u c + b * v c) * det n (minor M c) = a * (sgn c * u c * det n (minor M c)) + b * (sgn c * v c * det n (minor M c))
    rw [Int.mul_add, Int.add_mul]
    congr 1 <;> ac_rfl
  | n + 1, r + 1, M, a, b, u, v, h => by
    rw [det_succ, det_succ, det_succ, ← sumTo_mul, ← sumTo_mul, ← sumTo_add]
    refine sumTo_congr fun c _ => ?_
    rw [minor_setS, minor_setS, minor_setS, det_lin n r (minor M c) a b (fun j => u (skip c j)) (fun j => v (skip c j)) (by omega)]
    show sgn c * M 0 c * _ = a * (sgn c * M 0 c * _) + b * (sgn c * M 0 c * _)
    rw [Int.mul_add]
    congr 1 <;> ac_rfl
theorem det_zero_row {n r : Nat} {M : Mat} (hr : r < n) (h : ∀ j, j < n → M r j = 0) : det n M = 0 := by
  have e : det n M = det n (setRow M r fun j => 0 * (0 : Int) + 0 * 0) := det_congr fun i j _ hj => by
    show M i j = if i = r then _ else M i j
    by_cases z : i = r
    · rw [if_pos z, z, h j hj]; rfl
    · rw [if_neg z]
  rw [e, det_lin n r M 0 0 (fun _ => 0) (fun _ => 0) hr]
  omega
def swapRows (M : Mat) (r s : Nat) : Mat := fun i j => M (if i = r then s else if i = s then r else i) j
/-- the term of the double expansion -/
def term2 (n : Nat) (M : Mat) (c e : Nat) : Int :=
  if e = c then 0 else sgn c * sgn (unskip c e) * (M 0 c * M 1 e) * det n (fun i j => M (i + 2) (skip c (skip (unskip c e) j)))
theorem det_two (n : Nat) (M : Mat) : det (n + 2) M = sumTo (n + 2) fun c => sumTo (n + 2) fun e => term2 n M c e := by
  rw [det_succ]
  refine sumTo_congr fun c hc => ?_
  have q : sumTo (n + 2) (fun e => term2 n M c e) = sumTo (n + 1) (fun d => term2 n M c (skip c d)) := by
    rw [sumTo_skip (n + 1) c (fun e => term2 n M c e) hc]
    have z : term2 n M c c = 0 := if_pos rfl
    rw [z]
    exact (Int.sub_zero _).symm
  rw [q, det_succ, ← sumTo_mul]
  refine sumTo_congr fun d _ => ?_
  unfold term2
  rw [if_neg (skip_ne c d), unskip_skip]
  show sgn c * M 0 c * (sgn d * M 1 (skip c d) * det n (minor (minor M c) d)) = sgn c * sgn d * (M 0 c * M 1 (skip c d)) * det n _
  have e : minor (minor M c) d = fun i j => M (i + 2) (skip c (skip d j)) := rfl
  rw [e]
  ac_rfl
theorem skip_skip {c e : Nat} (h : e ≠ c) (j : Nat) : skip c (skip (unskip c e) j) = skip e (skip (unskip e c) j) := by
  unfold skip unskip
  repeat' split
  all_goals omega
theorem sgn_two {c e : Nat} (h : e ≠ c) : sgn c * sgn (unskip c e) = - (sgn e * sgn (unskip e c)) := by
  unfold unskip
  by_cases z : e < c
  · rw [if_pos z, if_neg (by omega)]
    obtain ⟨d, rfl⟩ : ∃ d, c = d + 1 := ⟨c - 1, by omega⟩
    rw [show d + 1 - 1 = d from rfl, sgn_succ]
    rw [Int.neg_mul, Int.mul_comm]
  · rw [if_neg z, if_pos (by omega)]
    obtain ⟨d, rfl⟩ : ∃ d, e = d + 1 := ⟨e - 1, by omega⟩
    rw [show d + 1 - 1 = d from rfl, sgn_succ]
    rw [Int.neg_mul, Int.neg_neg, Int.mul_comm]
theorem term2_swap (n : Nat) (M : Mat) (c e : Nat) : term2 n (swapRows M 0 1) c e = - term2 n M e c := by
  unfold term2
  by_cases h : e = c
  · rw [if_pos h, if_pos h.symm]; rfl
  · rw [if_neg h, if_neg (fun z => h z.symm), sgn_two h]
    have q : (fun i j => swapRows M 0 1 (i + 2) (skip c (skip (unskip c e) j))) = fun i j => M (i + 2) (skip e (skip (unskip e c) j)) := by
      funext i j
      rw [← skip_skip h]
      rfl
    rw [q]
    show -(sgn e * sgn (unskip e c)) * (M 1 c * M 0 e) * _ = -(_ * (M 0 e * M 1 c) * _)
    rw [Int.neg_mul, Int.neg_mul, Int.mul_comm (M 1 c) (M 0 e)]
theorem det_swap01 (n : Nat) (M : Mat) : det (n + 2) (swapRows M 0 1) = - det (n + 2) M := by
  rw [det_two, det_two, sumTo_comm, ← sumTo_neg]
  refine sumTo_congr fun c _ => ?_
  rw [← sumTo_neg]
  exact sumTo_congr fun e _ => term2_swap n M e c
/-- neighbours change places -/
theorem det_swapN : ∀ (r n : Nat) (M : Mat), r + 1 < n → det n (swapRows M r (r + 1)) = - det n M
  | 0, n, M, h => by
    obtain ⟨m, rfl⟩ : ∃ m, n = m + 2 := ⟨n - 2, by omega⟩
    exact det_swap01 m M
  | r + 1, n, M, h => by
    obtain ⟨m, rfl⟩ : ∃ m, n = m + 1 := ⟨n - 1, by omega⟩
    rw [det_succ, det_succ, ← sumTo_neg]
    refine sumTo_congr fun c _ => ?_
    have q : minor (swapRows M (r + 1) (r + 1 + 1)) c = swapRows (minor M c) r (r + 1) := by
      funext i j
      show M (if i + 1 = r + 1 then r + 1 + 1 else if i + 1 = r + 1 + 1 then r + 1 else i + 1) (skip c j) = M ((if i = r then r + 1 else if i = r + 1 then r else i) + 1) (skip c j)
      congr 1
      repeat' split
      all_goals omega
    rw [q, det_swapN r m (minor M c) (by omega)]
    show sgn c * M 0 c * - _ = - (sgn c * M 0 c * _)
    rw [Int.mul_neg]
theorem det_swap_gap : ∀ (g r n : Nat) (M : Mat), r + g + 1 < n → det n (swapRows M r (r + g + 1)) = - det n M
  | 0, r, n, M, h => det_swapN r n M h
  | g + 1, r, n, M, h => by
    have e : swapRows M r (r + (g + 1) + 1) = swapRows (swapRows (swapRows M (r + g + 1) (r + g + 1 + 1)) r (r + g + 1)) (r + g + 1) (r + g + 1 + 1) := by
      funext i j
      unfold swapRows
      congr 1
      repeat' split
      all_goals omega
    rw [e, det_swapN _ n _ (by omega), det_swap_gap g r n _ (by omega), det_swapN _ n _ (by omega)]
    omega
theorem det_swap {n r s : Nat} (M : Mat) (hr : r < n) (hs : s < n) (h : r ≠ s) : det n (swapRows M r s) = - det n M := by
  by_cases z : r < s
  · have q := det_swap_gap (s - r - 1) r n M (by omega)
    rw [show r + (s - r - 1) + 1 = s from by omega] at q
    exact q
  · have q := det_swap_gap (r - s - 1) s n M (by omega)
    rw [show s + (r - s - 1) + 1 = r from by omega] at q
    have e : swapRows M r s = swapRows M s r := by
      funext i j
      unfold swapRows
      congr 1
      repeat' split
      all_goals omega
    rw [e]; exact q
/-- two rows alike -/
theorem det_alike {n r s : Nat} {M : Mat} (hr : r < n) (hs : s < n) (h : r ≠ s) (e : ∀ j, j < n → M r j = M s j) : det n M = 0 := by
  have q := det_swap M hr hs h
  have z : det n (swapRows M r s) = det n M := det_congr fun i j _ hj => by
    show M (if i = r then s else if i = s then r else i) j = M i j
    by_cases a : i = r
    · rw [if_pos a, a, e j hj]
    · rw [if_neg a]
      by_cases b : i = s
      · rw [if_pos b, b, e j hj]
      · rw [if_neg b]
  omega
end TT

namespace TT
/-- row s is nought but at t -/
theorem det_unit : ∀ (n s t : Nat) (M : Mat), s < n + 1 → t < n + 1 → (∀ j, j < n + 1 → j ≠ t → M s j = 0) →
    det (n + 1) M = sgn (s + t) * M s t * det n (fun i j => M (skip s i) (skip t j))
  | n, 0, t, M, _, ht, h => by
    rw [det_succ, sumTo_one ht fun c hc hne => by rw [h c hc hne]; simp]
    have e : (fun i j => M (skip 0 i) (skip t j)) = minor M t := by
      funext i j
      have q : skip 0 i = i + 1 := by unfold skip; rw [if_neg (Nat.not_lt_zero i)]
      rw [q]
      rfl
    rw [e, Nat.zero_add]
  | 0, s + 1, t, M, hs, _, _ => by omega
  | n + 1, s + 1, t, M, hs, ht, h => by
    rw [det_succ]
    have each : ∀ c, c < n + 1 + 1 → sgn c * M 0 c * det (n + 1) (minor M c) = if c = t then 0 else sgn (s + 1 + t) * M (s + 1) t * (sgn (unskip t c) * M 0 c * det n (fun i j => M (skip (s + 1) (i + 1)) (skip t (skip (unskip t c) j)))) := fun c hc => by
      by_cases e : c = t
      · rw [if_pos e, det_zero_row (n := n + 1) (r := s) (M := minor M c) (by omega) fun j hj => h (skip c j) (skip_lt hj) (by rw [e]; exact skip_ne t j)]
        exact Int.mul_zero _
      · rw [if_neg e]
        have ht' : unskip c t < n + 1 := unskip_lt hc ht fun z => e z.symm
        have ih := det_unit n s (unskip c t) (minor M c) (by omega) ht' fun j hj hne => h (skip c j) (skip_lt hj) fun z => hne (by rw [← z, unskip_skip])
        rw [ih]
        show sgn c * M 0 c * (sgn (s + unskip c t) * M (s + 1) (skip c (unskip c t)) * det n fun i j => M (skip s i + 1) (skip c (skip (unskip c t) j))) = _
        rw [skip_unskip (fun z => e z.symm)]
        have q1 : (fun i j => M (skip s i + 1) (skip c (skip (unskip c t) j))) = fun i j => M (skip (s + 1) (i + 1)) (skip t (skip (unskip t c) j)) := by
          funext i j
          rw [skip_skip (fun z => e z.symm)]
          congr 1
          unfold skip
          repeat' split
          all_goals omega
        rw [q1]
        have q2 : sgn c * sgn (s + unskip c t) = sgn (s + 1 + t) * sgn (unskip t c) := by
          have add : ∀ a b : Nat, sgn (a + b) = sgn a * sgn b := fun a b => by
            unfold sgn
            repeat' split
            all_goals first | rfl | omega
          rw [add, add, sgn_succ]
          have q := sgn_two e
          have r : sgn c * (sgn s * sgn (unskip c t)) = sgn s * (sgn c * sgn (unskip c t)) := by ac_rfl
          rw [r, sgn_two (fun z => e z.symm)]
          rw [Int.neg_mul, Int.neg_mul, Int.mul_neg]
          congr 1
          ac_rfl
        generalize det n (fun i j => M (skip (s + 1) (i + 1)) (skip t (skip (unskip t c) j))) = D
        calc sgn c * M 0 c * (sgn (s + unskip c t) * M (s + 1) t * D) = (sgn c * sgn (s + unskip c t)) * (M 0 c * M (s + 1) t * D) := by ac_rfl
          _ = (sgn (s + 1 + t) * sgn (unskip t c)) * (M 0 c * M (s + 1) t * D) := by rw [q2]
          _ = _ := by ac_rfl
    rw [sumTo_congr each]
    have back := sumTo_skip (n + 1) t (fun c => if c = t then (0 : Int) else sgn (s + 1 + t) * M (s + 1) t * (sgn (unskip t c) * M 0 c * det n (fun i j => M (skip (s + 1) (i + 1)) (skip t (skip (unskip t c) j))))) ht
    rw [if_pos rfl, Int.sub_zero] at back
    rw [← back, det_succ, ← sumTo_mul]
    refine sumTo_congr fun d _ => ?_
    rw [if_neg (skip_ne t d), unskip_skip]
    rfl
/-- the last row is nought but at its end -/
theorem det_last (n : Nat) (M : Mat) (h : ∀ j, j < n → M n j = 0) : det (n + 1) M = M n n * det n M := by
  rw [det_unit n n n M (Nat.lt_succ_self n) (Nat.lt_succ_self n) fun j hj hne => h j (by omega)]
  have e : sgn (n + n) = 1 := by unfold sgn; rw [if_pos (by omega)]
  rw [e, Int.one_mul]
  congr 1
  refine det_congr fun i j hi hj => ?_
  unfold skip
  rw [if_pos hi, if_pos hj]
/-- a whole column of noughts below: rows from k on are nought up to place k -/
theorem det_block : ∀ (n k : Nat) (M : Mat), k < n → (∀ i j, k ≤ i → i < n → j ≤ k → M i j = 0) → det n M = 0
  | 0, k, _, h, _ => absurd h (Nat.not_lt_zero k)
  | n + 1, 0, M, _, h => by
    rw [det_succ]
    refine sumTo_zero fun c hc => ?_
    by_cases z : c = 0
    · subst z
      rw [h 0 0 (Nat.le_refl 0) (Nat.succ_pos n) (Nat.le_refl 0)]; simp
    · have q : det n (minor M c) = 0 := det_block n 0 (minor M c) (by omega) fun i j _ hi hj => by
        have e : skip c j = 0 := by unfold skip; rw [if_pos (by omega)]; omega
        show M (i + 1) (skip c j) = 0
        rw [e]
        exact h (i + 1) 0 (Nat.zero_le _) (by omega) (Nat.le_refl 0)
      rw [q]; exact Int.mul_zero _
  | n + 1, k + 1, M, hk, h => by
    rw [det_succ]
    refine sumTo_zero fun c hc => ?_
    have q : det n (minor M c) = 0 := det_block n k (minor M c) (by omega) fun i j h1 h2 h3 => by
      refine h (i + 1) (skip c j) (by omega) (by omega) ?_
      unfold skip
      split <;> omega
    rw [q]; exact Int.mul_zero _
theorem natAbs_sumTo : ∀ (n B : Nat) (f : Nat → Int), (∀ i, i < n → (f i).natAbs ≤ B) → (sumTo n f).natAbs ≤ n * B
  | 0, B, _, _ => by show (0 : Int).natAbs ≤ _; simp
  | n + 1, B, f, h => by
    have ih := natAbs_sumTo n B f fun i hi => h i (Nat.lt_succ_of_lt hi)
    have a := h n (Nat.lt_succ_self n)
    have t := Int.natAbs_add_le (sumTo n f) (f n)
    show (sumTo n f + f n).natAbs ≤ _
    rw [Nat.add_mul, Nat.one_mul]
    omega
theorem sgn_abs (c : Nat) : (sgn c).natAbs = 1 := by unfold sgn; split <;> rfl
/-- how great it may be, up to eight rows -/
theorem det_bound : ∀ (n B : Nat) (M : Mat), n ≤ 8 → (∀ i j, i < n → j < n → (M i j).natAbs ≤ B) → (det n M).natAbs ≤ (8 * B) ^ n
  | 0, B, _, _, _ => by show (1 : Int).natAbs ≤ _; simp
  | n + 1, B, M, hn, h => by
    rw [det_succ]
    have q : ∀ c, c < n + 1 → (sgn c * M 0 c * det n (minor M c)).natAbs ≤ B * (8 * B) ^ n := fun c hc => by
      rw [Int.natAbs_mul, Int.natAbs_mul, sgn_abs, Nat.one_mul]
      exact Nat.mul_le_mul (h 0 c (Nat.succ_pos n) hc) (det_bound n B (minor M c) (by omega) fun i j hi hj => h (i + 1) (skip c j) (by omega) (skip_lt hj))
    have s := natAbs_sumTo (n + 1) _ _ q
    refine Nat.le_trans s ?_
    rw [Nat.pow_succ]
    have e : (8 * B) ^ n * (8 * B) = 8 * (B * (8 * B) ^ n) := by ac_rfl
    rw [e]
    exact Nat.mul_le_mul_right _ (by omega)
end TT

namespace TT
theorem det_lin_sum (n r : Nat) (hr : r < n) (M : Mat) (a : Int) (u : Nat → Int) (c : Nat → Int) (P : Mat) : ∀ k : Nat,
    det n (setRow M r fun j => a * u j + sumTo k fun t => c t * P t j) = a * det n (setRow M r u) + sumTo k fun t => c t * det n (setRow M r (P t))
  | 0 => by
    have e : (fun j => a * u j + sumTo 0 fun t => c t * P t j) = fun j => a * u j + 0 * u j := funext fun j => by show a * u j + 0 = _; omega
    rw [e, det_lin n r M a 0 u u hr]
    show _ = a * _ + 0
    omega
  | k + 1 => by
    have e : (fun j => a * u j + sumTo (k + 1) fun t => c t * P t j) = fun j => 1 * (a * u j + sumTo k fun t => c t * P t j) + c k * P k j := funext fun j => by
      show a * u j + (sumTo k (fun t => c t * P t j) + c k * P k j) = _
      omega
    rw [e, det_lin n r M 1 (c k) _ (P k) hr, det_lin_sum n r hr M a u c P k]
    show _ = a * _ + (sumTo k (fun t => c t * det n (setRow M r (P t))) + c k * _)
    omega
/-- where the elimination stands: R the rows, P the rows of M as they were exchanged -/
structure BInv (n at_ : Nat) (M R : Mat) (side last : Int) : Prop where
  ex : ∃ P : Mat, side * det n P = det n M ∧ side * side = 1 ∧ last = det at_ P ∧ last ≠ 0 ∧ (∀ i, i < n → ∃ i', i' < n ∧ ∀ j, P i j = M i' j) ∧
    ∀ i, at_ ≤ i → i < n → (∀ j, j < at_ → R i j = 0) ∧ ∃ (q : Int) (c : Nat → Int), q ≠ 0 ∧ ∀ j, j < n → q * R i j = q * last * P i j + sumTo at_ fun t => c t * P t j
theorem BInv.start (n : Nat) (M : Mat) : BInv n 0 M M 1 1 :=
  ⟨M, Int.one_mul _, rfl, rfl, by decide, fun i hi => ⟨i, hi, fun _ => rfl⟩, fun i _ _ => ⟨fun j h => absurd h (Nat.not_lt_zero j), 1, fun _ => 0, by decide, fun j _ => by show 1 * M i j = 1 * 1 * M i j + 0; omega⟩⟩
/-- the bordered part: rows 0 .. a-1 and i, columns 0 .. a-1 and j -/
def bord (P : Mat) (a i j : Nat) : Mat := fun r c => P (if r = a then i else r) (if c = a then j else c)
theorem bord_comb {n a i j : Nat} {P : Mat} {last q : Int} {u : Nat → Int} {c : Nat → Int} (ha : a < n) (hj : j < n) (hq : q ≠ 0) (h : ∀ j, j < n → q * u j = q * last * P i j + sumTo a fun t => c t * P t j) :
    det (a + 1) (setRow (bord P a i j) a fun k => u (if k = a then j else k)) = last * det (a + 1) (bord P a i j) := by
  have e1 : q * det (a + 1) (setRow (bord P a i j) a fun k => u (if k = a then j else k)) = det (a + 1) (setRow (bord P a i j) a fun k => q * last * (bord P a i j a k) + sumTo a fun t => c t * bord P a i j t k) := by
    have l := det_lin (a + 1) a (bord P a i j) q 0 (fun k => u (if k = a then j else k)) (fun k => u (if k = a then j else k)) (Nat.lt_succ_self a)
    rw [Int.zero_mul, Int.add_zero] at l
    rw [← l]
    refine det_congr fun r k _ hk => ?_
    show (if r = a then _ else _) = if r = a then _ else _
    by_cases z : r = a
    · rw [if_pos z, if_pos z]
      have hk' : (if k = a then j else k) < n := by split <;> omega
      have q1 := h _ hk'
      show q * u (if k = a then j else k) + 0 * u (if k = a then j else k) = q * last * P (if a = a then i else a) (if k = a then j else k) + sumTo a fun t => c t * P (if t = a then i else t) (if k = a then j else k)
      rw [Int.zero_mul, Int.add_zero, q1, if_pos rfl]
      congr 1
      refine sumTo_congr fun t ht => ?_
      rw [if_neg (Nat.ne_of_lt ht)]
    · rw [if_neg z, if_neg z]
  rw [det_lin_sum (a + 1) a (Nat.lt_succ_self a)] at e1
  have z : sumTo a (fun t => c t * det (a + 1) (setRow (bord P a i j) a (bord P a i j t))) = 0 := sumTo_zero fun t ht => by
    rw [det_alike (n := a + 1) (r := t) (s := a) (by omega) (by omega) (by omega) fun k _ => ?_]
    · exact Int.mul_zero _
    · show (if t = a then _ else bord P a i j t k) = if a = a then bord P a i j t k else _
      rw [if_neg (by omega), if_pos rfl]
  have s : setRow (bord P a i j) a (bord P a i j a) = bord P a i j := by
    funext r k
    show (if r = a then bord P a i j a k else bord P a i j r k) = _
    by_cases y : r = a
    · rw [if_pos y, y]
    · rw [if_neg y]
  rw [z, s, Int.add_zero, Int.mul_assoc] at e1
  exact Int.eq_of_mul_eq_mul_left hq e1
theorem bord_lead {a i j : Nat} {P : Mat} {u : Nat → Int} (hu : ∀ k, k < a → u k = 0) : det (a + 1) (setRow (bord P a i j) a fun k => u (if k = a then j else k)) = u j * det a P := by
  rw [det_last a _ fun k hk => ?_]
  · show (if a = a then u (if a = a then j else a) else _) * _ = _
    rw [if_pos rfl, if_pos rfl]
    congr 1
    refine det_congr fun r k hr hk => ?_
    show (if r = a then _ else P (if r = a then i else r) (if k = a then j else k)) = P r k
    rw [if_neg (by omega), if_neg (by omega), if_neg (by omega)]
  · show (if a = a then u (if k = a then j else k) else _) = 0
    rw [if_pos rfl, if_neg (by omega)]
    exact hu k hk
section
variable {n a : Nat} {M R : Mat} {side last : Int}
theorem BInv.entry (B : BInv n a M R side last) : ∃ P : Mat, (∀ i, i < n → ∃ i', i' < n ∧ ∀ j, P i j = M i' j) ∧ last = det a P ∧ ∀ i j, a ≤ i → i < n → j < n → R i j = det (a + 1) (bord P a i j) := by
  obtain ⟨P, _, _, e3, e4, e5, e6⟩ := B.ex
  refine ⟨P, e5, e3, fun i j hi hn hj => ?_⟩
  obtain ⟨z, q, c, hq, h⟩ := e6 i hi hn
  have h1 := bord_comb (u := R i) (Nat.lt_of_le_of_lt hi hn) hj hq h
  rw [bord_lead z, ← e3, Int.mul_comm] at h1
  exact Int.eq_of_mul_eq_mul_left e4 h1
theorem BInv.bound (B : BInv n a M R side last) {b : Nat} (hn : n ≤ 8) (hb : ∀ i j, i < n → j < n → (M i j).natAbs ≤ b) {i j : Nat} (hi : a ≤ i) (hin : i < n) (hj : j < n) : (R i j).natAbs ≤ (8 * b) ^ (a + 1) := by
  obtain ⟨P, e5, _, e⟩ := B.entry
  rw [e i j hi hin hj]
  refine det_bound (a + 1) b _ (by omega) fun r c hr hc => ?_
  have h1 : (if r = a then i else r) < n := by split <;> omega
  have h2 : (if c = a then j else c) < n := by split <;> omega
  obtain ⟨i', hi', q⟩ := e5 _ h1
  show (P _ _).natAbs ≤ b
  rw [q]
  exact hb _ _ hi' h2
theorem BInv.lastBound (B : BInv n a M R side last) {b : Nat} (hn : n ≤ 8) (ha : a ≤ n) (hb : ∀ i j, i < n → j < n → (M i j).natAbs ≤ b) : last.natAbs ≤ (8 * b) ^ a := by
  obtain ⟨P, _, _, e3, _, e5, _⟩ := B.ex
  rw [e3]
  refine det_bound a b _ (by omega) fun r c hr hc => ?_
  obtain ⟨i', hi', q⟩ := e5 r (by omega)
  rw [q]
  exact hb _ _ hi' (by omega)
theorem BInv.ne (B : BInv n a M R side last) : last ≠ 0 := let ⟨_, _, _, _, e, _⟩ := B.ex; e
theorem BInv.fin (B : BInv n n M R side last) : side * last = det n M := by
  obtain ⟨P, e1, _, e3, _⟩ := B.ex
  rw [e3, e1]
/-- no pivot: nothing comes of it -/
theorem BInv.none (B : BInv n a M R side last) (ha : a < n) (h : ∀ i, a ≤ i → i < n → R i a = 0) : det n M = 0 := by
  obtain ⟨P, e1, _, e3, e4, e5, e6⟩ := B.ex
  -- rows from m on are multiples of R's
  have each : ∀ i, ∃ (q : Int) (c : Nat → Int), a ≤ i → i < n → q ≠ 0 ∧ ∀ j, j < n → q * R i j = q * last * P i j + sumTo a fun t => c t * P t j := fun i => by
    by_cases z : a ≤ i ∧ i < n
    · obtain ⟨_, q, c, hq, hh⟩ := e6 i z.1 z.2
      exact ⟨q, c, fun _ _ => ⟨hq, hh⟩⟩
    · exact ⟨1, fun _ => 0, fun x y => absurd ⟨x, y⟩ z⟩
  let q : Nat → Int := fun i => Classical.choose (each i)
  let hyb : Nat → Mat := fun m i j => if i < m then P i j else q i * R i j
  have up : ∀ m, a ≤ m → m < n → det n (hyb m) = 0 → det n (hyb (m + 1)) = 0 := fun m h1 h2 h3 => by
    obtain ⟨c, hc⟩ := Classical.choose_spec (each m)
    obtain ⟨hq, hh⟩ := hc h1 h2
    have hq : q m ≠ 0 := hq
    have hh : ∀ j, j < n → q m * R m j = q m * last * P m j + sumTo a fun t => c t * P t j := hh
    have e : det n (hyb m) = det n (setRow (hyb (m + 1)) m fun j => q m * last * P m j + sumTo a fun t => c t * P t j) := det_congr fun i j hi hj => by
      show (if i < m then P i j else q i * R i j) = if i = m then _ else if i < m + 1 then P i j else q i * R i j
      by_cases y : i = m
      · rw [if_pos y, if_neg (by omega), y, hh j hj]
      · rw [if_neg y]
        by_cases x : i < m
        · rw [if_pos x, if_pos (by omega)]
        · rw [if_neg x, if_neg (by omega)]
    rw [e, det_lin_sum n m h2] at h3
    have z : sumTo a (fun t => c t * det n (setRow (hyb (m + 1)) m (P t))) = 0 := sumTo_zero fun t ht => by
      rw [det_alike (n := n) (r := t) (s := m) (by omega) h2 (by omega) fun k _ => ?_]
      · exact Int.mul_zero _
      · show (if t = m then _ else if t < m + 1 then P t k else _) = if m = m then P t k else _
        rw [if_neg (by omega), if_pos (by omega), if_pos rfl]
    have s : setRow (hyb (m + 1)) m (P m) = hyb (m + 1) := by
      funext i j
      show (if i = m then P m j else if i < m + 1 then P i j else _) = if i < m + 1 then P i j else _
      by_cases y : i = m
      · rw [if_pos y, if_pos (by omega), y]
      · rw [if_neg y]
    rw [z, s, Int.add_zero] at h3
    rcases Int.mul_eq_zero.mp h3 with w | w
    · rcases Int.mul_eq_zero.mp w with w | w
      · exact absurd w hq
      · exact absurd w e4
    · exact w
  have base : det n (hyb a) = 0 := det_block n a _ ha fun i j h1 h2 h3 => by
    show (if i < a then P i j else q i * R i j) = 0
    rw [if_neg (by omega)]
    have z : R i j = 0 := by
      by_cases y : j = a
      · rw [y]; exact h i h1 h2
      · exact (e6 i h1 h2).1 j (by omega)
    rw [z]; exact Int.mul_zero _
  have all : ∀ d, a + d ≤ n → det n (hyb (a + d)) = 0 := fun d => by
    induction d with
    | zero => exact fun _ => base
    | succ d ih => exact fun hd => up (a + d) (by omega) (by omega) (ih (by omega))
  have last0 := all (n - a) (by omega)
  have e : det n (hyb (a + (n - a))) = det n P := det_congr fun i j hi _ => by
    show (if i < a + (n - a) then P i j else _) = P i j
    rw [if_pos (by omega)]
  rw [← e1, ← e, last0]
  exact Int.mul_zero _
theorem BInv.swap (B : BInv n a M R side last) {k : Nat} (hk : a ≤ k) (hkn : k < n) (hne : k ≠ a) : BInv n a M (swapRows R a k) (-side) last := by
  obtain ⟨P, e1, e2, e3, e4, e5, e6⟩ := B.ex
  have low : ∀ t, t < a → swapRows P a k t = P t := fun t ht => by
    funext j
    show P (if t = a then k else if t = k then a else t) j = P t j
    rw [if_neg (by omega), if_neg (by omega)]
  refine ⟨swapRows P a k, ?_, ?_, ?_, e4, fun i hi => ?_, fun i hi hin => ?_⟩
  · rw [det_swap P (by omega) hkn (fun z => hne z.symm), Int.neg_mul, Int.mul_neg, Int.neg_neg, e1]
  · rw [Int.neg_mul_neg, e2]
  · rw [e3]
    exact (det_congr fun i j hi _ => by rw [low i hi]).symm
  · refine e5 _ ?_
    repeat' split
    all_goals omega
  · have h1 : a ≤ (if i = a then k else if i = k then a else i) := by
      repeat' split
      all_goals omega
    have h2 : (if i = a then k else if i = k then a else i) < n := by
      repeat' split
      all_goals omega
    obtain ⟨z, q, c, hq, h⟩ := e6 _ h1 h2
    refine ⟨z, q, c, hq, fun j hj => ?_⟩
    have s : sumTo a (fun t => c t * swapRows P a k t j) = sumTo a fun t => c t * P t j := sumTo_congr fun t ht => by rw [low t ht]
    rw [s]
    exact h j hj
/-- what a step makes of row i, by P's rows -/
theorem comb_step {i k : Nat} {P : Mat} {q1 q2 : Int} {c1 c2 : Nat → Int} (g1 : q1 * R i k = q1 * last * P i k + sumTo a fun t => c1 t * P t k) (g2 : q2 * R a k = q2 * last * P a k + sumTo a fun t => c2 t * P t k) :
    q1 * q2 * (R i k * R a a - R i a * R a k) = q1 * q2 * (last * R a a) * P i k + sumTo (a + 1) fun t => (if t = a then - (R i a * q1 * q2 * last) else c1 t * q2 * R a a - c2 t * q1 * R i a) * P t k := by
  have s : (sumTo (a + 1) fun t => (if t = a then - (R i a * q1 * q2 * last) else c1 t * q2 * R a a - c2 t * q1 * R i a) * P t k) = q2 * R a a * (sumTo a fun t => c1 t * P t k) - q1 * R i a * (sumTo a fun t => c2 t * P t k) - R i a * q1 * q2 * last * P a k := by
    show sumTo a _ + (if a = a then - (R i a * q1 * q2 * last) else c1 a * q2 * R a a - c2 a * q1 * R i a) * P a k = _
    rw [if_pos rfl]
    have w : sumTo a (fun t => (if t = a then - (R i a * q1 * q2 * last) else c1 t * q2 * R a a - c2 t * q1 * R i a) * P t k) = sumTo a fun t => q2 * R a a * (c1 t * P t k) + (- (q1 * R i a)) * (c2 t * P t k) := sumTo_congr fun t ht => by
      rw [if_neg (Nat.ne_of_lt ht), Int.sub_mul, Int.neg_mul, ← Int.sub_eq_add_neg]
      congr 1 <;> ac_rfl
    rw [w, sumTo_add, sumTo_mul, sumTo_mul, Int.neg_mul, Int.neg_mul]
    omega
  rw [s]
  generalize sumTo a (fun t => c1 t * P t k) = S1 at *
  generalize sumTo a (fun t => c2 t * P t k) = S2 at *
  have t1 : S1 = q1 * R i k - q1 * last * P i k := by omega
  have t2 : S2 = q2 * R a k - q2 * last * P a k := by omega
  rw [t1, t2]
  simp only [Int.mul_sub]
  have m1 : q1 * q2 * (R i k * R a a) = q2 * R a a * (q1 * R i k) := by ac_rfl
  have m2 : q1 * q2 * (R i a * R a k) = q1 * R i a * (q2 * R a k) := by ac_rfl
  have m3 : q1 * q2 * (last * R a a) * P i k = q2 * R a a * (q1 * last * P i k) := by ac_rfl
  have m4 : R i a * q1 * q2 * last * P a k = q1 * R i a * (q2 * last * P a k) := by ac_rfl
  rw [m1, m2, m3, m4]
  omega
/-- the division of a step leaves no rest -/
theorem BInv.exact (B : BInv n a M R side last) (ha : a < n) (hp : R a a ≠ 0) {i j : Nat} (hi : a < i) (hin : i < n) (hj : j < n) :
    ∃ d, R i j * R a a - R i a * R a j = last * d := by
  obtain ⟨P, e1, e2, e3, e4, e5, e6⟩ := B.ex
  obtain ⟨z1, q1, c1, hq1, h1⟩ := e6 i (by omega) hin
  obtain ⟨z2, q2, c2, hq2, h2⟩ := e6 a (Nat.le_refl a) ha
  have zero : ∀ k, k < a + 1 → R i k * R a a - R i a * R a k = 0 := fun k hk => by
    by_cases y : k = a
    · rw [y, Int.sub_self]
    · rw [z1 k (by omega), z2 k (by omega)]; simp
  by_cases hj1 : j < a + 1
  · exact ⟨0, by rw [zero j hj1, Int.mul_zero]⟩
  · have lead : R a a = det (a + 1) P := by
      have h := bord_comb (u := R a) (j := a) ha ha hq2 h2
      rw [bord_lead z2, ← e3, Int.mul_comm] at h
      rw [Int.eq_of_mul_eq_mul_left e4 h]
      refine det_congr fun r c _ _ => ?_
      show P (if r = a then a else r) (if c = a then a else c) = P r c
      congr 1
      · split <;> omega
      · split <;> omega
    refine ⟨det (a + 1 + 1) (bord P (a + 1) i j), ?_⟩
    have hh := bord_comb (n := n) (a := a + 1) (i := i) (j := j) (P := P) (last := last * R a a) (q := q1 * q2) (u := fun k => R i k * R a a - R i a * R a k)
        (by omega) hj (Int.mul_ne_zero hq1 hq2) fun k hk => comb_step (h1 k hk) (h2 k hk)
    rw [bord_lead (u := fun k => R i k * R a a - R i a * R a k) zero] at hh
    have hh' : (R i j * R a a - R i a * R a j) * det (a + 1) P = last * R a a * det (a + 1 + 1) (bord P (a + 1) i j) := hh
    rw [← lead] at hh'
    have e : R a a * (R i j * R a a - R i a * R a j) = R a a * (last * det (a + 1 + 1) (bord P (a + 1) i j)) := by
      rw [Int.mul_comm (R a a) (R i j * R a a - R i a * R a j), hh']
      ac_rfl
    exact Int.eq_of_mul_eq_mul_left hp e
theorem BInv.sweep (B : BInv n a M R side last) (ha : a < n) (hp : R a a ≠ 0) {R' : Mat} (hR : ∀ i j, a < i → i < n → j < n → R' i j = (R i j * R a a - R i a * R a j).fdiv last) : BInv n (a + 1) M R' side (R a a) := by
  obtain ⟨P, e1, e2, e3, e4, e5, e6⟩ := id B.ex
  obtain ⟨z2, q2, c2, hq2, h2⟩ := e6 a (Nat.le_refl a) ha
  have lead : R a a = det (a + 1) P := by
    have h := bord_comb (u := R a) (j := a) ha ha hq2 h2
    rw [bord_lead z2, ← e3, Int.mul_comm] at h
    rw [Int.eq_of_mul_eq_mul_left e4 h]
    refine det_congr fun r c _ _ => ?_
    show P (if r = a then a else r) (if c = a then a else c) = P r c
    congr 1
    · split <;> omega
    · split <;> omega
  have ex : ∀ i j, a < i → i < n → j < n → last * R' i j = R i j * R a a - R i a * R a j := fun i j h1 h2 h3 => by
    obtain ⟨d, hd⟩ := B.exact ha hp h1 h2 h3
    rw [hR i j h1 h2 h3, hd, Int.mul_comm last d, Int.mul_fdiv_cancel _ e4, Int.mul_comm]
  refine ⟨P, e1, e2, lead, hp, e5, fun i hi hin => ?_⟩
  obtain ⟨z1, q1, c1, hq1, h1⟩ := e6 i (by omega) hin
  refine ⟨fun j hj => ?_, q1 * q2 * last, fun t => if t = a then - (R i a * q1 * q2 * last) else c1 t * q2 * R a a - c2 t * q1 * R i a, Int.mul_ne_zero (Int.mul_ne_zero hq1 hq2) e4, fun j hj => ?_⟩
  · have q := ex i j (by omega) hin (by omega)
    have zero : R i j * R a a - R i a * R a j = 0 := by
      by_cases y : j = a
      · rw [y, Int.sub_self]
      · rw [z1 j (by omega), z2 j (by omega)]; simp
    rw [zero] at q
    rcases Int.mul_eq_zero.mp q with w | w
    · exact absurd w e4
    · exact w
  · rw [Int.mul_assoc (q1 * q2) last (R' i j), ex i j (by omega) hin hj, comb_step (h1 j hj) (h2 j hj)]
    congr 1
    ac_rfl
end
end TT

namespace TT
open List
/-- all lists of k items of l, in l's order, those with l's first item first -/
def subs {α : Type} : List α → Nat → List (List α)
  | _, 0 => [[]]
  | [], _ + 1 => []
  | x :: l, k + 1 => (subs l k).map (x :: ·) ++ subs l (k + 1)
theorem subs_zero {α : Type} (l : List α) : subs l 0 = [[]] := by cases l <;> rfl
theorem subs_map {α β : Type} (f : α → β) : ∀ (l : List α) (k : Nat), subs (l.map f) k = (subs l k).map (List.map f)
  | l, 0 => by rw [subs_zero, subs_zero]; rfl
  | [], k + 1 => rfl
  | x :: l, k + 1 => by
    show (subs (l.map f) k).map (f x :: ·) ++ subs (l.map f) (k + 1) = ((subs l k).map (x :: ·) ++ subs l (k + 1)).map (List.map f)
    rw [subs_map f l k, subs_map f l (k + 1), List.map_append, List.map_map, List.map_map]
    rfl
theorem subs_len {α : Type} : ∀ {l : List α} {k : Nat} {S : List α}, S ∈ subs l k → S.length = k
  | l, 0, S, h => by rw [subs_zero, List.mem_singleton] at h; rw [h]; rfl
  | [], k + 1, S, h => by cases h
  | x :: l, k + 1, S, h => by
    rcases List.mem_append.mp h with h | h
    · obtain ⟨S', h', rfl⟩ := List.mem_map.mp h
      rw [List.length_cons, subs_len h']
    · exact subs_len h
theorem subs_sub {α : Type} : ∀ {l : List α} {k : Nat} {S : List α}, S ∈ subs l k → S.Sublist l
  | l, 0, S, h => by rw [subs_zero, List.mem_singleton] at h; rw [h]; exact List.nil_sublist l
  | [], k + 1, S, h => by cases h
  | x :: l, k + 1, S, h => by
    rcases List.mem_append.mp h with h | h
    · obtain ⟨S', h', rfl⟩ := List.mem_map.mp h
      exact (subs_sub h').cons_cons x
    · exact (subs_sub h).cons x
theorem mem_subs {α : Type} {l S : List α} (h : S.Sublist l) : S ∈ subs l S.length := by
  induction h with
  | slnil => exact List.mem_singleton.mpr rfl
  | @cons S l x h ih =>
    cases S with
    | nil => rw [List.length_nil, subs_zero]; exact List.mem_singleton.mpr rfl
    | cons y S => exact List.mem_append_right _ ih
  | @cons_cons S l x h ih => exact List.mem_append_left _ (List.mem_map.mpr ⟨S, ih, rfl⟩)
/-- how many of them have p, whatever the order of l -/
theorem count_perm {α : Type} {l l' : List α} (h : l.Perm l') : ∀ (k : Nat) (p : List α → Bool), (∀ S S', S.Perm S' → p S = p S') → (subs l k).countP p = (subs l' k).countP p := by
  induction h with
  | nil => exact fun _ _ _ => rfl
  | @cons x l l' _ ih =>
    intro k p hp
    cases k with
    | zero => rw [subs_zero, subs_zero]
    | succ k =>
      show ((subs l k).map (x :: ·) ++ subs l (k + 1)).countP p = ((subs l' k).map (x :: ·) ++ subs l' (k + 1)).countP p
      rw [List.countP_append, List.countP_append, List.countP_map, List.countP_map, ih (k + 1) p hp, ih k (p ∘ (x :: ·)) fun S S' q => hp _ _ (q.cons x)]
  | swap x y l =>
    intro k p hp
    cases k with
    | zero => rw [subs_zero, subs_zero]
    | succ k =>
      show ((subs (x :: l) k).map (y :: ·) ++ ((subs l k).map (x :: ·) ++ subs l (k + 1))).countP p = ((subs (y :: l) k).map (x :: ·) ++ ((subs l k).map (y :: ·) ++ subs l (k + 1))).countP p
      cases k with
      | zero =>
        simp only [subs_zero, List.map_cons, List.map_nil, List.countP_append, List.countP_cons, List.countP_nil]
        omega
      | succ k =>
        show (((subs l k).map (x :: ·) ++ subs l (k + 1)).map (y :: ·) ++ ((subs l (k + 1)).map (x :: ·) ++ subs l (k + 1 + 1))).countP p = (((subs l k).map (y :: ·) ++ subs l (k + 1)).map (x :: ·) ++ ((subs l (k + 1)).map (y :: ·) ++ subs l (k + 1 + 1))).countP p
        simp only [List.map_append, List.map_map, List.countP_append, List.countP_map]
        have e : (subs l k).countP (p ∘ ((y :: ·) ∘ (x :: ·))) = (subs l k).countP (p ∘ ((x :: ·) ∘ (y :: ·))) := congrArg (fun q => List.countP q (subs l k)) (funext fun S => hp _ _ (List.Perm.swap x y S))
        rw [e]
        omega
  | trans _ _ ih1 ih2 => exact fun k p hp => (ih1 k p hp).trans (ih2 k p hp)

/-! ### two places as one -/
/-- where a place is when lo and hi are one -/
def mv (lo hi p : Nat) : Nat := if p = hi then lo else p - (if p > hi then 1 else 0)
def contract (lo hi : Nat) (ts : List Tie) : List Tie := ts.map fun t => (mv lo hi t.1, mv lo hi t.2)
abbrev Inb (n : Nat) (ts : List Tie) : Prop := ∀ t, t ∈ ts → t.1 < n ∧ t.2 < n
theorem mv_lt {lo hi n p : Nat} (h : lo < hi) (hn : hi < n) (hp : p < n) : mv lo hi p < n - 1 := by
  unfold mv
  repeat' split
  all_goals omega
theorem mv_eq {lo hi p q : Nat} (h : lo < hi) (e : mv lo hi p = mv lo hi q) : p = q ∨ (p = lo ∧ q = hi) ∨ (p = hi ∧ q = lo) := by
  unfold mv at e
  repeat' split at e
  all_goals omega
theorem mv_back {lo hi c : Nat} (h : lo < hi) : mv lo hi (skip hi c) = c := by
  unfold mv skip
  repeat' split
  all_goals omega
theorem contract_inb {n lo hi : Nat} {ts : List Tie} (h : lo < hi) (hn : hi < n) (hb : Inb n ts) : Inb (n - 1) (contract lo hi ts) := fun t ht => by
  obtain ⟨s, hs, rfl⟩ := List.mem_map.mp ht
  exact ⟨mv_lt h hn (hb s hs).1, mv_lt h hn (hb s hs).2⟩
theorem cn_down {lo hi x y : Nat} {S : List Tie} (h : lo < hi) (hxy : (x = lo ∧ y = hi) ∨ (x = hi ∧ y = lo)) {a b : Nat} (k : Cn ((x, y) :: S) a b) : Cn (contract lo hi S) (mv lo hi a) (mv lo hi b) := by
  have same : mv lo hi x = mv lo hi y := by
    have e1 : mv lo hi lo = lo := by
      unfold mv
      repeat' split
      all_goals omega
    have e2 : mv lo hi hi = lo := if_pos rfl
    rcases hxy with ⟨rfl, rfl⟩ | ⟨rfl, rfl⟩
    · rw [e1, e2]
    · rw [e1, e2]
  induction k with
  | refl => exact .refl _
  | @step p q _ e ih =>
    rcases e with e | e
    · rcases List.mem_cons.mp e with e | e
      · have e1 : p = x := congrArg Prod.fst e
        have e2 : q = y := congrArg Prod.snd e
        rw [e1, same, ← e2] at ih
        exact ih
      · exact .step ih (.inl (List.mem_map.mpr ⟨(p, q), e, rfl⟩))
    · rcases List.mem_cons.mp e with e | e
      · have e1 : q = x := congrArg Prod.fst e
        have e2 : p = y := congrArg Prod.snd e
        rw [e2, ← same, ← e1] at ih
        exact ih
      · exact .step ih (.inr (List.mem_map.mpr ⟨(q, p), e, rfl⟩))
theorem cn_up {lo hi x y : Nat} {S : List Tie} (h : lo < hi) (hxy : (x = lo ∧ y = hi) ∨ (x = hi ∧ y = lo)) {c d : Nat} (k : Cn (contract lo hi S) c d) : ∀ a b, mv lo hi a = c → mv lo hi b = d → Cn ((x, y) :: S) a b := by
  have xy : Cn ((x, y) :: S) x y := .tie List.mem_cons_self
  have lh : Cn ((x, y) :: S) lo hi := by
    rcases hxy with ⟨rfl, rfl⟩ | ⟨rfl, rfl⟩
    · exact xy
    · exact xy.symm
  have same : ∀ a b, mv lo hi a = mv lo hi b → Cn ((x, y) :: S) a b := fun a b e => by
    rcases mv_eq h e with e | ⟨rfl, rfl⟩ | ⟨rfl, rfl⟩
    · rw [e]; exact .refl _
    · exact lh
    · exact lh.symm
  induction k with
  | refl => exact fun a b e1 e2 => same a b (e1.trans e2.symm)
  | @step p q _ e ih =>
    intro a b e1 e2
    rcases e with e | e
    · obtain ⟨t, ht, e'⟩ := List.mem_map.mp e
      have h1 : mv lo hi t.1 = p := congrArg Prod.fst e'
      have h2 : mv lo hi t.2 = q := congrArg Prod.snd e'
      exact ((ih a t.1 e1 h1).trans (.tie (List.mem_cons_of_mem _ ht))).trans (same _ _ (h2.trans e2.symm))
    · obtain ⟨t, ht, e'⟩ := List.mem_map.mp e
      have h1 : mv lo hi t.1 = q := congrArg Prod.fst e'
      have h2 : mv lo hi t.2 = p := congrArg Prod.snd e'
      have k2 : Cn ((x, y) :: S) t.1 t.2 := .tie (List.mem_cons_of_mem _ ht)
      exact ((ih a t.2 e1 h2).trans k2.symm).trans (same _ _ (h1.trans e2.symm))
theorem conn_contract {n lo hi x y : Nat} {S : List Tie} (h : lo < hi) (hn : hi < n) (hxy : (x = lo ∧ y = hi) ∨ (x = hi ∧ y = lo)) : Conn n ((x, y) :: S) ↔ Conn (n - 1) (contract lo hi S) := by
  have z : mv lo hi 0 = 0 := by
    unfold mv
    repeat' split
    all_goals omega
  constructor
  · intro k c hc
    have q := cn_down h hxy (k (skip hi c) (by unfold skip; split <;> omega))
    rw [z, mv_back h] at q
    exact q
  · exact fun k a ha => cn_up h hxy (k (mv lo hi a) (mv_lt h hn ha)) 0 a z rfl
theorem conn_loop {n x : Nat} {S : List Tie} : Conn n ((x, x) :: S) ↔ Conn n S := by
  constructor
  · intro k a ha
    rcases (k a ha).cons with q | ⟨q, r⟩ | ⟨q, r⟩
    · exact q
    · exact q.trans r
    · exact q.trans r
  · exact fun k a ha => (k a ha).mono fun _ => List.mem_cons_of_mem _
/-- as many ties as it takes -/
theorem conn_len : ∀ (S : List Tie) (n : Nat), Inb n S → Conn n S → n ≤ S.length + 1
  | [], n, _, k => by
    by_cases z : n ≤ 1
    · exact z
    · have := (k 1 (by omega)).nil
      omega
  | (x, y) :: S, n, hb, k => by
    have hx := hb _ List.mem_cons_self
    have hs : Inb n S := fun t ht => hb t (List.mem_cons_of_mem _ ht)
    rw [List.length_cons]
    rcases Nat.lt_trichotomy x y with l | l | l
    · have := conn_len _ _ (contract_inb l hx.2 hs) ((conn_contract l hx.2 (.inl ⟨rfl, rfl⟩)).mp k)
      unfold contract at this
      rw [List.length_map] at this
      omega
    · subst l
      have := conn_len S n hs (conn_loop.mp k)
      omega
    · have := conn_len _ _ (contract_inb l hx.1 hs) ((conn_contract l hx.1 (.inr ⟨rfl, rfl⟩)).mp k)
      unfold contract at this
      rw [List.length_map] at this
      omega
termination_by S => S.length
decreasing_by
  all_goals simp [contract]
noncomputable def connP (n : Nat) (S : List Tie) : Bool := @decide (Conn n S) (Classical.propDecidable _)
theorem connP_iff {n : Nat} {S : List Tie} : connP n S = true ↔ Conn n S := by unfold connP; exact @decide_eq_true_iff _ (Classical.propDecidable _)
theorem connP_perm {n : Nat} {S S' : List Tie} (h : S.Perm S') : connP n S = connP n S' := by
  rw [Bool.eq_iff_iff, connP_iff, connP_iff]
  exact ⟨fun k a ha => (Cn.iff_of_mem fun t => h.mem_iff).mp (k a ha), fun k a ha => (Cn.iff_of_mem fun t => h.mem_iff).mpr (k a ha)⟩
/-- in how many ways the places hang together -/
noncomputable def T (n : Nat) (ts : List Tie) : Nat := (subs ts (n - 1)).countP (connP n)
theorem T_perm {n : Nat} {ts us : List Tie} (h : ts.Perm us) : T n ts = T n us := count_perm h _ _ fun _ _ => connP_perm
theorem countP_eq {α : Type} {l : List α} {p q : α → Bool} (h : ∀ x, x ∈ l → p x = q x) : l.countP p = l.countP q := by
  induction l with
  | nil => rfl
  | cons x l ih =>
    rw [List.countP_cons, List.countP_cons, ih fun y hy => h y (List.mem_cons_of_mem _ hy), h x List.mem_cons_self]
theorem countP_none {α : Type} {l : List α} {p : α → Bool} (h : ∀ x, x ∈ l → p x = false) : l.countP p = 0 := by
  rw [countP_eq (q := fun _ => false) h]
  induction l with
  | nil => rfl
  | cons x l ih => rw [List.countP_cons, ih fun y hy => h y (List.mem_cons_of_mem _ hy)]; rfl
theorem T_loop {n x : Nat} {ts : List Tie} (hn : 0 < n) (hx : x < n) (hb : Inb n ts) : T n ((x, x) :: ts) = T n ts := by
  unfold T
  obtain ⟨m, rfl⟩ : ∃ m, n = m + 1 := ⟨n - 1, by omega⟩
  rw [Nat.add_sub_cancel]
  cases m with
  | zero => rw [subs_zero, subs_zero]
  | succ m =>
    show ((subs ts m).map ((x, x) :: ·) ++ subs ts (m + 1)).countP _ = _
    rw [List.countP_append, List.countP_map, countP_none fun S hS => ?_, Nat.zero_add]
    refine Bool.eq_false_iff.mpr fun k => ?_
    have k' := conn_loop.mp (connP_iff.mp k)
    have l := conn_len S _ (fun t ht => hb t ((subs_sub hS).subset ht)) k'
    rw [subs_len hS] at l
    omega
theorem T_contract {n lo hi x y : Nat} {ts : List Tie} (h : lo < hi) (hn : hi < n) (hxy : (x = lo ∧ y = hi) ∨ (x = hi ∧ y = lo)) : T n ((x, y) :: ts) = T n ts + T (n - 1) (contract lo hi ts) := by
  unfold T
  obtain ⟨m, rfl⟩ : ∃ m, n = m + 2 := ⟨n - 2, by omega⟩
  show ((subs ts m).map ((x, y) :: ·) ++ subs ts (m + 1)).countP _ = (subs ts (m + 1)).countP _ + (subs (contract lo hi ts) m).countP _
  rw [List.countP_append, List.countP_map, Nat.add_comm]
  congr 1
  unfold contract
  rw [subs_map, List.countP_map]
  refine countP_eq fun S hS => ?_
  rw [Bool.eq_iff_iff]
  show connP _ ((x, y) :: S) = true ↔ connP _ (S.map _) = true
  rw [connP_iff, connP_iff]
  exact conn_contract h hn hxy
end TT

/-! the table of a net and its trees -/
namespace TT
def ind (a b : Nat) : Int := if a = b then 1 else 0
def lapT (t : Tie) : Mat := fun i j => (ind i t.1 - ind i t.2) * (ind j t.1 - ind j t.2)
def lap : List Tie → Mat
  | [] => fun _ _ => 0
  | t :: ts => fun i j => lapT t i j + lap ts i j
def cutAt (r : Nat) (M : Mat) : Mat := fun i j => M (skip r i) (skip r j)
theorem lap_perm {ts us : List Tie} (h : ts.Perm us) : lap ts = lap us := by
  induction h with
  | nil => rfl
  | cons t _ ih => funext i j; show lapT t i j + _ = lapT t i j + _; rw [ih]
  | swap a b l => funext i j; show lapT b i j + (lapT a i j + _) = lapT a i j + (lapT b i j + _); omega
  | trans _ _ h1 h2 => exact h1.trans h2
theorem ind_ne {a b : Nat} (h : a ≠ b) : ind a b = 0 := if_neg h
theorem ind_self (a : Nat) : ind a a = 1 := if_pos rfl
theorem sum_ind {n a : Nat} (h : a < n) : sumTo n (fun i => ind i a) = 1 := by
  rw [sumTo_one h fun i _ hne => ind_ne hne, ind_self]
theorem lapT_col {n : Nat} {t : Tie} (h1 : t.1 < n) (h2 : t.2 < n) (q : Nat) : sumTo n (fun i => lapT t i q) = 0 := by
  have e : (fun i => lapT t i q) = fun i => (ind q t.1 - ind q t.2) * (ind i t.1 + (-1) * ind i t.2) := funext fun i => by
    show (ind i t.1 - ind i t.2) * (ind q t.1 - ind q t.2) = _
    rw [Int.mul_comm]
    congr 1
    omega
  rw [e, sumTo_mul, sumTo_add, sumTo_mul, sum_ind h1, sum_ind h2]
  simp
theorem lap_col {n : Nat} (q : Nat) : ∀ {ts : List Tie}, Inb n ts → sumTo n (fun i => lap ts i q) = 0
  | [], _ => sumTo_zero fun _ _ => rfl
  | t :: ts, h => by
    show sumTo n (fun i => lapT t i q + lap ts i q) = 0
    rw [sumTo_add, lapT_col (h t List.mem_cons_self).1 (h t List.mem_cons_self).2, lap_col q fun u hu => h u (List.mem_cons_of_mem _ hu)]
    rfl
/-- no tie leads from r to others -/
def Lone (r : Nat) (ts : List Tie) : Prop := ∀ t, t ∈ ts → (t.1 = r ↔ t.2 = r)
theorem lap_lone {r q : Nat} : ∀ {ts : List Tie}, Lone r ts → lap ts r q = 0
  | [], _ => rfl
  | t :: ts, h => by
    show (ind r t.1 - ind r t.2) * _ + lap ts r q = 0
    rw [lap_lone fun u hu => h u (List.mem_cons_of_mem _ hu)]
    have e := h t List.mem_cons_self
    have z : ind r t.1 = ind r t.2 := by
      by_cases c : t.1 = r
      · rw [c, e.mp c]
      · rw [ind_ne (fun z => c z.symm), ind_ne (fun z => c (e.mpr z.symm))]
    rw [z, Int.sub_self, Int.zero_mul]
    rfl
theorem det_cols {n : Nat} {M : Mat} (h : ∀ j, j < n + 1 → sumTo (n + 1) (fun i => M i j) = 0) : det (n + 1) M = 0 := by
  have e : det (n + 1) M = det (n + 1) (setRow M n fun j => 0 * M n j + sumTo n fun t => (-1) * M t j) := det_congr fun i j hi hj => by
    show _ = if i = n then _ else M i j
    by_cases c : i = n
    · rw [if_pos c, c]
      show M n j = 0 * M n j + sumTo n fun t => (-1) * M t j
      rw [sumTo_mul]
      have q : sumTo n (fun i => M i j) + M n j = 0 := h j hj
      omega
    · rw [if_neg c]
  rw [e, det_lin_sum (n + 1) n (Nat.lt_succ_self n) M 0 (M n) (fun _ => -1) M n, Int.zero_mul, sumTo_zero fun t ht => ?_]
  · rfl
  · rw [det_alike (r := t) (s := n) (by omega) (Nat.lt_succ_self n) (by omega) fun k _ => ?_]
    · rfl
    · show (if t = n then _ else M t k) = if n = n then M t k else _
      rw [if_neg (by omega), if_pos rfl]
theorem det_lone {n r : Nat} {ts : List Tie} (hr : r < n + 2) (hb : Inb (n + 2) ts) (hl : Lone r ts) : det (n + 1) (cutAt r (lap ts)) = 0 := det_cols fun j hj => by
  show sumTo (n + 1) (fun i => lap ts (skip r i) (skip r j)) = 0
  rw [sumTo_skip (n + 1) r (fun i => lap ts i (skip r j)) hr, lap_col _ hb, lap_lone hl]
  rfl
theorem cn_lone {r a b : Nat} {ts : List Tie} (hl : Lone r ts) (h : Cn ts a b) : a = r ↔ b = r := by
  induction h with
  | refl => exact Iff.rfl
  | step _ e ih =>
    rcases e with e | e
    · exact ih.trans (hl _ e)
    · exact ih.trans (hl _ e).symm
theorem T_lone {n r : Nat} {ts : List Tie} (hr : r < n + 2) (hl : Lone r ts) : T (n + 2) ts = 0 := countP_none fun S hS => by
  have sl : Lone r S := fun t ht => hl t ((subs_sub hS).subset ht)
  have no : ¬ Conn (n + 2) S := fun c => by
    have h0 := cn_lone sl (c r hr)
    have e0 : 0 = r := h0.mpr rfl
    have h1 := cn_lone sl (c (n + 1) (by omega))
    have := h1.mp e0
    omega
  cases e : connP (n + 2) S with
  | false => rfl
  | true => exact absurd (connP_iff.mp e) no
theorem mv_iff {lo hi a p : Nat} (h : lo < hi) (h1 : p ≠ lo) (h2 : p ≠ hi) : mv lo hi a = mv lo hi p ↔ a = p := ⟨fun e => by
  rcases mv_eq h e with z | ⟨z, w⟩ | ⟨z, w⟩
  · exact z
  · exact absurd w h2
  · exact absurd w h1, fun e => by rw [e]⟩
theorem ind_mv {lo hi a p : Nat} (h : lo < hi) (h1 : p ≠ lo) (h2 : p ≠ hi) : ind (mv lo hi p) (mv lo hi a) = ind p a := by
  unfold ind
  by_cases c : p = a
  · rw [if_pos c, if_pos (by rw [c])]
  · rw [if_neg c, if_neg (fun z => c ((mv_iff h h1 h2).mp z.symm).symm)]
theorem lap_contract {lo hi p q : Nat} (h : lo < hi) (p1 : p ≠ lo) (p2 : p ≠ hi) (q1 : q ≠ lo) (q2 : q ≠ hi) : ∀ ts : List Tie, lap (contract lo hi ts) (mv lo hi p) (mv lo hi q) = lap ts p q
  | [] => rfl
  | t :: ts => by
    show (ind _ _ - ind _ _) * (ind _ _ - ind _ _) + lap (contract lo hi ts) _ _ = (ind _ _ - ind _ _) * (ind _ _ - ind _ _) + lap ts p q
    rw [ind_mv h p1 p2, ind_mv h p1 p2, ind_mv h q1 q2, ind_mv h q1 q2, lap_contract h p1 p2 q1 q2 ts]
theorem lap_matrix : ∀ (d n : Nat) (ts : List Tie) (r : Nat), n + ts.length ≤ d → r < n → Inb n ts → det (n - 1) (cutAt r (lap ts)) = (T n ts : Int)
  | 0, n, ts, r, hd, hr, _ => absurd hr (by omega)
  | d + 1, 1, ts, r, hd, hr, hb => by
    show (1 : Int) = ((subs ts 0).countP (connP 1) : Int)
    rw [subs_zero]
    have e : connP 1 [] = true := connP_iff.mpr fun a ha => by
      obtain rfl : a = 0 := by omega
      exact .refl 0
    simp [e]
  | d + 1, 0, ts, r, hd, hr, hb => absurd hr (Nat.not_lt_zero r)
  | d + 1, n + 2, ts, r, hd, hr, hb => by
    by_cases hl : Lone r ts
    · rw [T_lone hr hl]
      exact det_lone hr hb hl
    · obtain ⟨t, ht, hne⟩ : ∃ t, t ∈ ts ∧ ¬ (t.1 = r ↔ t.2 = r) := Classical.byContradiction fun z => hl fun t ht => Classical.byContradiction fun w => z ⟨t, ht, w⟩
      have pm := List.perm_cons_erase ht
      generalize ts.erase t = us at pm
      rw [T_perm pm, lap_perm pm]
      have hb' : Inb (n + 2) (t :: us) := fun u hu => hb u (pm.symm.subset hu)
      have hbu : Inb (n + 2) us := fun u hu => hb' u (List.mem_cons_of_mem _ hu)
      have len : ts.length = us.length + 1 := pm.length_eq
      obtain ⟨x, y⟩ := t
      have hx : x < n + 2 := (hb' _ List.mem_cons_self).1
      have hy : y < n + 2 := (hb' _ List.mem_cons_self).2
      have hne : ¬ (x = r ↔ y = r) := hne
      obtain ⟨s, hs, hsr, exy⟩ : ∃ s, s < n + 2 ∧ s ≠ r ∧ ((x = r ∧ y = s) ∨ (x = s ∧ y = r)) := by
        by_cases c : x = r
        · exact ⟨y, hy, fun z => hne ⟨fun _ => z, fun _ => c⟩, .inl ⟨c, rfl⟩⟩
        · exact ⟨x, hx, c, .inr ⟨rfl, Classical.byContradiction fun z => hne ⟨fun w => absurd w c, fun w => absurd w z⟩⟩⟩
      obtain ⟨s', hs'⟩ : ∃ s', s' = unskip r s := ⟨_, rfl⟩
      have s'lt : s' < n + 1 := by rw [hs']; exact unskip_lt hr hs hsr
      have sks : skip r s' = s := by rw [hs']; exact skip_unskip hsr
      have one : ∀ i, ind (skip r i) x - ind (skip r i) y = (if i = s' then 1 else 0) * (if y = r then 1 else -1) := fun i => by
        have er : ind (skip r i) r = 0 := ind_ne (skip_ne r i)
        have es : ind (skip r i) s = if i = s' then 1 else 0 := by
          unfold ind
          by_cases c : i = s'
          · rw [if_pos c, if_pos (by rw [c, sks])]
          · rw [if_neg c, if_neg fun z => c (skip_inj (z.trans sks.symm))]
        rcases exy with ⟨e1, e2⟩ | ⟨e1, e2⟩
        · rw [e1, e2, er, es, if_neg hsr]; omega
        · rw [e1, e2, er, es, if_pos rfl]; omega
      have sq : ((if y = r then 1 else -1 : Int)) * (if y = r then 1 else -1) = 1 := by split <;> rfl
      have row : det (n + 1) (cutAt r (lap ((x, y) :: us))) = det (n + 1) (setRow (cutAt r (lap us)) s' fun j => 1 * (if j = s' then 1 else 0) + 1 * cutAt r (lap us) s' j) := det_congr fun i j _ _ => by
        show (ind (skip r i) x - ind (skip r i) y) * (ind (skip r j) x - ind (skip r j) y) + lap us (skip r i) (skip r j) = if i = s' then 1 * (if j = s' then 1 else 0) + 1 * lap us (skip r s') (skip r j) else lap us (skip r i) (skip r j)
        rw [one i, one j]
        generalize (if y = r then (1 : Int) else -1) = g at sq
        by_cases ci : i = s'
        · rw [if_pos ci, if_pos ci, ci]
          by_cases cj : j = s'
          · rw [if_pos cj]
            have : (1 * g * (1 * g) : Int) = 1 := by rw [Int.one_mul]; exact sq
            omega
          · rw [if_neg cj]
            omega
        · rw [if_neg ci, if_neg ci]
          simp
      have same : setRow (cutAt r (lap us)) s' (cutAt r (lap us) s') = cutAt r (lap us) := by
        funext i j
        show (if i = s' then cutAt r (lap us) s' j else cutAt r (lap us) i j) = _
        by_cases c : i = s'
        · rw [if_pos c, c]
        · rw [if_neg c]
      rw [show n + 2 - 1 = n + 1 from rfl, row, det_lin (n + 1) s' _ 1 1 _ _ s'lt, same, Int.one_mul, Int.one_mul]
      have ih1 := lap_matrix d (n + 2) us r (by omega) hr hbu
      rw [show n + 2 - 1 = n + 1 from rfl] at ih1
      rw [ih1]
      -- the drawn together net
      obtain ⟨lo, hi, hlt, hhi, hxy, hrs⟩ : ∃ lo hi, lo < hi ∧ hi < n + 2 ∧ ((x = lo ∧ y = hi) ∨ (x = hi ∧ y = lo)) ∧ ((r = lo ∧ s = hi) ∨ (r = hi ∧ s = lo)) := by
        by_cases c : r < s
        · refine ⟨r, s, c, hs, ?_, .inl ⟨rfl, rfl⟩⟩
          rcases exy with ⟨e1, e2⟩ | ⟨e1, e2⟩
          · exact .inl ⟨e1, e2⟩
          · exact .inr ⟨e1, e2⟩
        · refine ⟨s, r, by omega, hr, ?_, .inr ⟨rfl, rfl⟩⟩
          rcases exy with ⟨e1, e2⟩ | ⟨e1, e2⟩
          · exact .inr ⟨e1, e2⟩
          · exact .inl ⟨e1, e2⟩
      have ih2 := lap_matrix d (n + 2 - 1) (contract lo hi us) lo (by unfold contract; rw [List.length_map]; omega) (by omega) (contract_inb hlt hhi hbu)
      rw [T_contract hlt hhi hxy, Int.natCast_add, ← ih2, Int.add_comm]
      congr 1
      rw [det_unit n s' s' _ s'lt s'lt fun j _ hj => ?_]
      · have e1 : sgn (s' + s') = 1 := by unfold sgn; rw [if_pos (by omega)]
        have e2 : setRow (cutAt r (lap us)) s' (fun j => if j = s' then 1 else 0) s' s' = 1 := by
          show (if s' = s' then (if s' = s' then (1 : Int) else 0) else _) = 1
          rw [if_pos rfl, if_pos rfl]
        rw [e1, e2, Int.one_mul, Int.one_mul]
        refine det_congr fun i j hi' hj' => ?_
        show (if skip s' i = s' then _ else lap us (skip r (skip s' i)) (skip r (skip s' j))) = lap (contract lo hi us) (skip lo i) (skip lo j)
        rw [if_neg (skip_ne s' i)]
        have q : ∀ i, skip r (skip s' i) ≠ lo ∧ skip r (skip s' i) ≠ hi ∧ mv lo hi (skip r (skip s' i)) = skip lo i := fun i => by
          have hs'' : s' = unskip r s := hs'
          unfold unskip at hs''
          unfold mv skip
          rcases hrs with ⟨e1, e2⟩ | ⟨e1, e2⟩ <;> subst e1 <;> subst e2 <;> (repeat' split) <;> (repeat' split at hs'') <;> omega
        rw [← (q i).2.2, ← (q j).2.2, lap_contract hlt (q i).1 (q i).2.1 (q j).1 (q j).2.1]
      · show (if s' = s' then (if j = s' then (1 : Int) else 0) else _) = 0
        rw [if_pos rfl, if_neg hj]
end TT

namespace TT
theorem filter_range {h : Nat} : ∀ {n : Nat}, h < n → (List.range n).filter (fun p => !decide (p = h)) = (List.range (n - 1)).map (skip h)
  | 0, hn => absurd hn (Nat.not_lt_zero h)
  | n + 1, hn => by
    rw [List.range_succ, List.filter_append]
    by_cases c : h = n
    · subst c
      have e1 : (List.range h).filter (fun p => !decide (p = h)) = List.range h := List.filter_eq_self.mpr fun p hp => by
        have := List.mem_range.mp hp
        simp; omega
      have e2 : ([h] : List Nat).filter (fun p => !decide (p = h)) = [] := by simp
      rw [e1, e2, List.append_nil, Nat.add_sub_cancel]
      refine (List.map_id _).symm.trans (List.map_congr_left fun p hp => ?_)
      have := List.mem_range.mp hp
      unfold skip
      rw [if_pos this]
      rfl
    · have e2 : ([n] : List Nat).filter (fun p => !decide (p = h)) = [n] := by
        rw [List.filter_cons, if_pos (by simp; omega)]
        rfl
      rw [filter_range (by omega : h < n), e2, Nat.add_sub_cancel]
      obtain ⟨m, rfl⟩ : ∃ m, n = m + 1 := ⟨n - 1, by omega⟩
      rw [Nat.add_sub_cancel, List.range_succ, List.map_append]
      congr 1
      show [m + 1] = [skip h m]
      unfold skip
      rw [if_neg (by omega)]
theorem without_eq {ts : List Tie} {j : Nat} (h : j < ts.length) : ((List.range ts.length).filter (fun p => !decide (p = j))).map (fun i => ts.getD i (0, 0)) = ts.eraseIdx j := by
  rw [filter_range h, List.map_map]
  refine List.ext_getElem? fun i => ?_
  rw [List.getElem?_map, List.getElem?_eraseIdx]
  by_cases c : i < ts.length - 1
  · rw [List.getElem?_range c]
    show some (ts.getD (skip j i) (0, 0)) = _
    have hs : skip j i < ts.length := by
      obtain ⟨m, hm⟩ : ∃ m, ts.length = m + 1 := ⟨ts.length - 1, by omega⟩
      rw [hm]
      exact skip_lt (by omega)
    rw [List.getD_eq_getElem?_getD, List.getElem?_eq_getElem hs]
    unfold skip
    split
    · rw [List.getElem?_eq_getElem]
      rfl
    · rw [List.getElem?_eq_getElem]
      rfl
  · rw [List.getElem?_eq_none (by rw [List.length_range]; omega)]
    split
    · omega
    · rw [List.getElem?_eq_none (by omega)]
      rfl
theorem unskip_mv {lo hi p : Nat} (h : lo < hi) : unskip hi (if p = hi then lo else p) = mv lo hi p := by
  unfold unskip mv
  repeat' split
  all_goals omega
theorem wo_perm : ∀ {ts : List Tie} {j : Nat}, j < ts.length → ts.Perm (ts.getD j (0, 0) :: ts.eraseIdx j)
  | [], _, h => absurd h (Nat.not_lt_zero _)
  | t :: ts, 0, _ => List.Perm.refl _
  | t :: ts, j + 1, h => by
    have ih := wo_perm (ts := ts) (j := j) (by simpa using h)
    exact (ih.cons t).trans (List.Perm.swap _ _ _)
theorem wo_inb {n : Nat} {ts : List Tie} {j : Nat} (h : Inb n ts) : Inb n (ts.eraseIdx j) := fun t ht => h t (List.mem_of_mem_eraseIdx ht)
theorem getD_inb {n : Nat} {ts : List Tie} {j : Nat} (h : Inb n ts) (hj : j < ts.length) : (ts.getD j (0, 0)).1 < n ∧ (ts.getD j (0, 0)).2 < n := by
  rw [List.getD_eq_getElem?_getD, List.getElem?_eq_getElem hj]
  exact h _ (List.getElem_mem _)
end TT
namespace TT
/-- turned about: the places and the ties -/
def turnT (n : Nat) (t : Tie) : Tie := (n - 1 - t.2, n - 1 - t.1)
theorem cn_turn {n : Nat} {S : List Tie} {a b : Nat} (h : Cn S a b) : Cn (S.map (turnT n)) (n - 1 - a) (n - 1 - b) := by
  induction h with
  | refl => exact .refl _
  | step _ e ih =>
    refine .step ih ?_
    rcases e with e | e
    · exact .inr (List.mem_map_of_mem e)
    · exact .inl (List.mem_map_of_mem e)
theorem turn_inb {n : Nat} {ts : List Tie} (h : Inb n ts) : Inb n (ts.map (turnT n)) := fun t ht => by
  obtain ⟨u, hu, rfl⟩ := List.mem_map.mp ht
  have := h u hu
  exact ⟨by show n - 1 - u.2 < n; omega, by show n - 1 - u.1 < n; omega⟩
theorem turn_turn {n : Nat} {ts : List Tie} (h : Inb n ts) : (ts.map (turnT n)).map (turnT n) = ts := by
  rw [List.map_map]
  refine (List.map_congr_left fun t ht => ?_).trans (List.map_id _)
  have := h t ht
  show (n - 1 - (n - 1 - t.1), n - 1 - (n - 1 - t.2)) = t
  exact Prod.ext (by show n - 1 - (n - 1 - t.1) = t.1; omega) (by show n - 1 - (n - 1 - t.2) = t.2; omega)
theorem conn_turn1 {n : Nat} {S : List Tie} (h : Conn n S) : Conn n (S.map (turnT n)) := fun a ha => by
  have h1 := cn_turn (n := n) (h (n - 1) (by omega))
  have h2 := cn_turn (n := n) (h (n - 1 - a) (by omega))
  have e1 : n - 1 - (n - 1) = 0 := by omega
  have e2 : n - 1 - (n - 1 - a) = a := by omega
  rw [e1] at h1
  rw [e2] at h2
  exact h1.symm.trans h2
theorem T_turn {n : Nat} {ts : List Tie} (h : Inb n ts) : T n (ts.map (turnT n)) = T n ts := by
  unfold T
  rw [subs_map, List.countP_map]
  refine countP_eq fun S hS => ?_
  have sb : Inb n S := fun t ht => h t ((subs_sub hS).subset ht)
  rw [Bool.eq_iff_iff]
  show connP n (S.map (turnT n)) = true ↔ _
  rw [connP_iff, connP_iff]
  exact ⟨fun k => by rw [← turn_turn sb]; exact conn_turn1 k, conn_turn1⟩
theorem T_more {n : Nat} {ts : List Tie} {t : Tie} (hn : 0 < n) (h : Inb n ts) (h1 : t.1 < n) (h2 : t.2 < n) : T n ts ≤ T n (t :: ts) := by
  obtain ⟨x, y⟩ := t
  by_cases c : x = y
  · subst c
    rw [T_loop hn h1 h]
    exact Nat.le_refl _
  · by_cases d : x < y
    · rw [T_contract d h2 (.inl ⟨rfl, rfl⟩)]
      exact Nat.le_add_right _ _
    · rw [T_contract (lo := y) (hi := x) (by omega) h1 (.inr ⟨rfl, rfl⟩)]
      exact Nat.le_add_right _ _
theorem T_out {n j : Nat} {ts : List Tie} (hn : 0 < n) (h : Inb n ts) (hj : j < ts.length) (e : (ts.getD j (0, 0)).1 = (ts.getD j (0, 0)).2) : T n ts = T n (ts.eraseIdx j) := by
  have b := getD_inb h hj
  rw [T_perm (wo_perm hj)]
  generalize ts.getD j (0, 0) = t at *
  obtain ⟨x, y⟩ := t
  have e' : x = y := e
  subst e'
  exact T_loop hn b.1 (wo_inb h)
theorem T_both {n j : Nat} {ts : List Tie} (h : Inb n ts) (hj : j < ts.length) (e : (ts.getD j (0, 0)).1 ≠ (ts.getD j (0, 0)).2) :
    T n ts = T n (ts.eraseIdx j) + T (n - 1) (contract (min (ts.getD j (0, 0)).1 (ts.getD j (0, 0)).2) (max (ts.getD j (0, 0)).1 (ts.getD j (0, 0)).2) (ts.eraseIdx j)) := by
  have b := getD_inb h hj
  rw [T_perm (wo_perm hj)]
  generalize ts.getD j (0, 0) = t at *
  obtain ⟨x, y⟩ := t
  have e' : x ≠ y := e
  have b1 : x < n := b.1
  have b2 : y < n := b.2
  refine T_contract (by show min x y < max x y; omega) (by show max x y < n; omega) ?_
  show (x = min x y ∧ y = max x y) ∨ (x = max x y ∧ y = min x y)
  omega
end TT

namespace TT
/-! how many parts; forests -/
def mk (n : Nat) (F : List Tie) (a : Nat) : Nat := (marks n F).getD a 0
def roots (n : Nat) (F : List Tie) : List Nat := (List.range n).filter fun a => decide (mk n F a = a)
def comps (n : Nat) (F : List Tie) : Nat := (roots n F).length
section
variable {n : Nat} {F R : List Tie} {a b x y : Nat}
theorem mk_le (h : Inb n F) (ha : a < n) : mk n F a ≤ a := (marks_ok h).le a ha
theorem mk_lt (h : Inb n F) (ha : a < n) : mk n F a < n := Nat.lt_of_le_of_lt (mk_le h ha) ha
theorem mk_iff (h : Inb n F) (ha : a < n) (hb : b < n) : mk n F a = mk n F b ↔ Cn F a b := (marks_ok h).iff a b ha hb
theorem mk_idem (h : Inb n F) (ha : a < n) : mk n F (mk n F a) = mk n F a := ((mk_iff h ha (mk_lt h ha)).mpr ((marks_ok h).own a ha)).symm
theorem mk_zero (h : Inb n F) (hn : 0 < n) : mk n F 0 = 0 := Nat.le_zero.mp (mk_le h hn)
theorem mem_roots : a ∈ roots n F ↔ a < n ∧ mk n F a = a := by
  unfold roots
  rw [List.mem_filter, List.mem_range, decide_eq_true_iff]
theorem mk_root (h : Inb n F) (ha : a < n) : mk n F a ∈ roots n F := mem_roots.mpr ⟨mk_lt h ha, mk_idem h ha⟩
theorem roots_nodup : (roots n F).Nodup := List.nodup_range.sublist List.filter_sublist
theorem roots_rise : (roots n F).Pairwise (· < ·) := List.pairwise_lt_range.sublist List.filter_sublist
theorem inb_app (h : Inb n F) (k : Inb n R) : Inb n (F ++ R) := fun t ht => (List.mem_append.mp ht).elim (h t) (k t)
theorem mk_push (h : Inb n F) (ha : a < n) : mk n (F ++ [(x, y)]) a = if mk n F a = max (mk n F x) (mk n F y) then min (mk n F x) (mk n F y) else mk n F a := by
  unfold mk marks
  rw [List.foldl_append]
  show (mstep (marks n F) (x, y)).getD a 0 = _
  exact getD_map _ (marks n F) a 0 0 (by rw [(marks_ok h).len]; exact ha)
theorem len_without {l : List Nat} {h : Nat} : l.Nodup → h ∈ l → (l.filter fun a => decide (a ≠ h)).length + 1 = l.length := by
  induction l with
  | nil => intro _ m; cases m
  | cons c l ih =>
    intro nd m
    have nd' := List.nodup_cons.mp nd
    rw [List.filter_cons]
    by_cases z : c = h
    · subst z
      have e : l.filter (fun a => decide (a ≠ c)) = l := List.filter_eq_self.mpr fun a ha => decide_eq_true fun q => nd'.1 (q ▸ ha)
      rw [if_neg (by simp), e]
      rfl
    · rw [if_pos (decide_eq_true z), List.length_cons, List.length_cons, ih nd'.2 ((List.mem_cons.mp m).resolve_left fun q => z q.symm)]
theorem comps_push (h : Inb n F) (hx : x < n) (hy : y < n) : comps n F = comps n (F ++ [(x, y)]) + if mk n F x = mk n F y then 0 else 1 := by
  have ix := mk_idem h hx
  have iy := mk_idem h hy
  have root : ∀ a, a < n → (mk n (F ++ [(x, y)]) a = a ↔ mk n F a = a ∧ (mk n F x = mk n F y ∨ a ≠ max (mk n F x) (mk n F y))) := fun a ha => by
    rw [mk_push h ha]
    have il : mk n F (min (mk n F x) (mk n F y)) = min (mk n F x) (mk n F y) := by
      rcases Nat.le_total (mk n F x) (mk n F y) with l | l
      · rw [Nat.min_eq_left l]; exact ix
      · rw [Nat.min_eq_right l]; exact iy
    by_cases c : mk n F a = max (mk n F x) (mk n F y)
    · rw [if_pos c]
      constructor
      · intro e
        rw [e] at il
        have : mk n F x = mk n F y := by omega
        exact ⟨il, .inl this⟩
      · rintro ⟨e1, e2 | e2⟩
        · omega
        · omega
    · rw [if_neg c]
      exact ⟨fun e => ⟨e, .inr fun z => c (by rw [e, z])⟩, fun e => e.1⟩
  unfold comps
  by_cases c : mk n F x = mk n F y
  · rw [if_pos c, Nat.add_zero]
    congr 1
    unfold roots
    refine List.filter_congr fun a ha => ?_
    rw [Bool.eq_iff_iff, decide_eq_true_iff, decide_eq_true_iff, root a (List.mem_range.mp ha)]
    exact ⟨fun e => ⟨e, .inl c⟩, fun e => e.1⟩
  · rw [if_neg c]
    have hi : max (mk n F x) (mk n F y) ∈ roots n F := by
      rcases Nat.le_total (mk n F x) (mk n F y) with l | l
      · rw [Nat.max_eq_right l]; exact mk_root h hy
      · rw [Nat.max_eq_left l]; exact mk_root h hx
    rw [← len_without roots_nodup hi]
    congr 2
    unfold roots
    rw [List.filter_filter]
    refine List.filter_congr fun a ha => ?_
    rw [Bool.eq_iff_iff, decide_eq_true_iff, Bool.and_eq_true, decide_eq_true_iff, decide_eq_true_iff, root a (List.mem_range.mp ha)]
    exact ⟨fun e => ⟨e.2, .inr e.1⟩, fun e => ⟨e.2.resolve_left c, e.1⟩⟩
theorem comps_nil : comps n [] = n := by
  unfold comps roots
  rw [List.filter_eq_self.mpr fun a ha => ?_, List.length_range]
  exact decide_eq_true (getD_range (List.mem_range.mp ha))
theorem inb_front (h : Inb n (F ++ R)) : Inb n F := fun t ht => h t (List.mem_append_left _ ht)
theorem inb_back (h : Inb n (F ++ R)) : Inb n R := fun t ht => h t (List.mem_append_right _ ht)
theorem comps_app : ∀ (R F : List Tie), Inb n (F ++ R) → comps n F ≤ comps n (F ++ R) + R.length
  | [], F, _ => by rw [List.append_nil]; exact Nat.le_refl _
  | (x, y) :: R, F, h => by
    have e : F ++ (x, y) :: R = (F ++ [(x, y)]) ++ R := by simp
    rw [e] at h ⊢
    have ih := comps_app R (F ++ [(x, y)]) h
    have hf := inb_front h
    have b := inb_back hf (x, y) List.mem_cons_self
    have s := comps_push (x := x) (y := y) (inb_front hf) b.1 b.2
    rw [List.length_cons]
    split at s <;> omega
def Forest (n : Nat) (F : List Tie) : Prop := comps n F + F.length = n
theorem comps_ge (h : Inb n F) : n ≤ comps n F + F.length := by
  have := comps_app F [] (by simpa using h)
  rw [comps_nil] at this
  simpa using this
theorem forest_nil : Forest n [] := by
  show comps n [] + 0 = n
  rw [comps_nil, Nat.add_zero]
theorem forest_push (h : Inb n F) (hx : x < n) (hy : y < n) : Forest n (F ++ [(x, y)]) ↔ Forest n F ∧ mk n F x ≠ mk n F y := by
  have s := comps_push h hx hy
  have g := comps_ge h
  unfold Forest
  rw [List.length_append, List.length_singleton]
  split at s
  · rename_i c
    exact ⟨fun e => by omega, fun e => absurd c e.2⟩
  · rename_i c
    exact ⟨fun e => ⟨by omega, c⟩, fun e => by omega⟩
theorem forest_front (h : Inb n (F ++ R)) (k : Forest n (F ++ R)) : Forest n F := by
  have g := comps_ge (inb_front h)
  have a := comps_app R F h
  unfold Forest at k ⊢
  rw [List.length_append] at k
  omega
theorem zero_root (h : Inb n F) (hn : 0 < n) : 0 ∈ roots n F := mem_roots.mpr ⟨hn, mk_zero h hn⟩
theorem comps_pos (h : Inb n F) (hn : 0 < n) : 0 < comps n F := List.length_pos_of_mem (zero_root h hn)
theorem conn_iff (h : Inb n F) (hn : 0 < n) : Conn n F ↔ comps n F = 1 := by
  constructor
  · intro k
    have all : ∀ a, a ∈ roots n F → a = 0 := fun a ha => by
      obtain ⟨h1, h2⟩ := mem_roots.mp ha
      rw [← h2, ← (mk_iff h hn h1).mpr (k a h1), mk_zero h hn]
    have z := zero_root h hn
    have nd : (roots n F).Nodup := roots_nodup
    unfold comps
    revert all z nd
    generalize roots n F = l
    intro all z nd
    match l, all, z, nd with
    | [_], _, _, _ => rfl
    | c :: d :: l, all, _, nd =>
      have e1 := all c List.mem_cons_self
      have e2 := all d (List.mem_cons_of_mem _ List.mem_cons_self)
      rw [e1, e2] at nd
      simp at nd
  · intro e a ha
    obtain ⟨c, hc⟩ := List.length_eq_one_iff.mp e
    have z := zero_root h hn
    have r := mk_root h ha
    rw [hc] at z r
    exact (mk_iff h hn ha).mp ((mk_zero h hn).trans ((List.mem_singleton.mp z).trans (List.mem_singleton.mp r).symm))
theorem conn_mono {S S' : List Tie} (h : Conn n S) (k : ∀ t, t ∈ S → t ∈ S') : Conn n S' := fun a ha => (h a ha).mono k
theorem tree_forest (h : Inb n F) (hn : 0 < n) (k : Conn n F) (hl : F.length = n - 1) : Forest n F := by
  have := (conn_iff h hn).mp k
  unfold Forest
  omega
theorem forest_tree (h : Inb n F) (hn : 0 < n) (k : Conn n F) (f : Forest n F) : F.length = n - 1 := by
  have := (conn_iff h hn).mp k
  unfold Forest at f
  omega
theorem forest_len (h : Inb n F) (hn : 0 < n) (f : Forest n F) : F.length ≤ n - 1 := by
  have := comps_pos h hn
  unfold Forest at f
  omega
theorem forest_open (h : Inb n F) (hn : 0 < n) (f : Forest n F) (hx : x < n) (hy : y < n) (o : mk n F x ≠ mk n F y) : F.length < n - 1 := by
  have s := comps_push h hx hy
  rw [if_neg o] at s
  have : 0 < comps n (F ++ [(x, y)]) := comps_pos (inb_app h fun t ht => by rw [List.mem_singleton.mp ht]; exact ⟨hx, hy⟩) hn
  unfold Forest at f
  omega
/-! parts as places -/
def qp (n : Nat) (F : List Tie) (p : Nat) : Nat := (roots n F).idxOf (mk n F p)
def qt (n : Nat) (F R : List Tie) : List Tie := R.map fun t => (qp n F t.1, qp n F t.2)
theorem qp_lt (h : Inb n F) (ha : a < n) : qp n F a < comps n F := List.idxOf_lt_length_of_mem (mk_root h ha)
theorem qp_get (h : Inb n F) (ha : a < n) : (roots n F)[qp n F a]? = some (mk n F a) := by
  have l := List.idxOf_lt_length_of_mem (mk_root h ha)
  unfold qp
  rw [List.getElem?_eq_getElem l, List.getElem_idxOf l]
theorem qp_eq (h : Inb n F) (ha : a < n) (hb : b < n) (e : qp n F a = qp n F b) : mk n F a = mk n F b := by
  have e1 := qp_get h ha
  have e2 := qp_get h hb
  rw [e, e2] at e1
  exact (Option.some.inj e1).symm
theorem qp_zero (h : Inb n F) (hn : 0 < n) : qp n F 0 = 0 := by
  unfold qp
  rw [mk_zero h hn]
  obtain ⟨m, rfl⟩ : ∃ m, n = m + 1 := ⟨n - 1, by omega⟩
  have e : roots (m + 1) F = 0 :: ((List.range m).map (· + 1)).filter fun a => decide (mk (m + 1) F a = a) := by
    unfold roots
    rw [List.range_succ_eq_map, List.filter_cons, if_pos (decide_eq_true (mk_zero h hn))]
  rw [e]
  exact List.idxOf_cons_self
theorem qp_onto (h : Inb n F) {i : Nat} (hi : i < comps n F) : ∃ p, p < n ∧ qp n F p = i := by
  have hm : (roots n F)[i] ∈ roots n F := List.getElem_mem hi
  obtain ⟨h1, h2⟩ := mem_roots.mp hm
  refine ⟨(roots n F)[i], h1, ?_⟩
  unfold qp
  rw [h2]
  exact roots_nodup.idxOf_getElem i hi
theorem qt_inb (h : Inb n F) (k : Inb n R) : Inb (comps n F) (qt n F R) := fun t ht => by
  obtain ⟨u, hu, rfl⟩ := List.mem_map.mp ht
  exact ⟨qp_lt h (k u hu).1, qp_lt h (k u hu).2⟩
theorem cn_qdown (h : Inb n F) (k : Inb n R) (c : Cn (F ++ R) a b) (ha : a < n) : Cn (qt n F R) (qp n F a) (qp n F b) := by
  induction c with
  | refl => exact .refl _
  | @step p q c e ih =>
    have same : ∀ {p q : Nat}, p < n → q < n → Cn F p q → qp n F p = qp n F q := fun hp hq c => by
      unfold qp
      rw [(mk_iff h hp hq).mpr c]
    rcases e with e | e
    · rcases List.mem_append.mp e with e | e
      · rw [← same (h _ e).1 (h _ e).2 (.tie e)]
        exact ih
      · exact .step ih (.inl (List.mem_map.mpr ⟨_, e, rfl⟩))
    · rcases List.mem_append.mp e with e | e
      · rw [same (h _ e).1 (h _ e).2 (.tie e)]
        exact ih
      · exact .step ih (.inr (List.mem_map.mpr ⟨_, e, rfl⟩))
theorem cn_qup (h : Inb n F) (k : Inb n R) {u v : Nat} (c : Cn (qt n F R) u v) : ∀ a b, a < n → b < n → qp n F a = u → qp n F b = v → Cn (F ++ R) a b := by
  have same : ∀ {p q : Nat}, p < n → q < n → qp n F p = qp n F q → Cn (F ++ R) p q := fun hp hq e => ((mk_iff h hp hq).mp (qp_eq h hp hq e)).mono fun t => List.mem_append_left _
  induction c with
  | refl => exact fun a b ha hb e1 e2 => same ha hb (e1.trans e2.symm)
  | step _ e ih =>
    intro a b ha hb e1 e2
    rcases e with e | e
    · obtain ⟨t, ht, e'⟩ := List.mem_map.mp e
      have h1 : qp n F t.1 = _ := congrArg Prod.fst e'
      have h2 : qp n F t.2 = _ := congrArg Prod.snd e'
      exact ((ih a t.1 ha (k t ht).1 e1 h1).trans (.tie (List.mem_append_right _ ht))).trans (same (k t ht).2 hb (h2.trans e2.symm))
    · obtain ⟨t, ht, e'⟩ := List.mem_map.mp e
      have h1 : qp n F t.1 = _ := congrArg Prod.fst e'
      have h2 : qp n F t.2 = _ := congrArg Prod.snd e'
      have k2 : Cn (F ++ R) t.1 t.2 := .tie (List.mem_append_right _ ht)
      exact ((ih a t.2 ha (k t ht).2 e1 h2).trans k2.symm).trans (same (k t ht).1 hb (h1.trans e2.symm))
theorem conn_q (h : Inb n F) (k : Inb n R) (hn : 0 < n) : Conn n (F ++ R) ↔ Conn (comps n F) (qt n F R) := by
  constructor
  · intro c i hi
    obtain ⟨p, hp, rfl⟩ := qp_onto h hi
    have := cn_qdown h k (c p hp) hn
    rw [qp_zero h hn] at this
    exact this
  · intro c a ha
    exact cn_qup h k (c _ (qp_lt h ha)) 0 a hn ha (qp_zero h hn) rfl
end
end TT

namespace TT
/-! hangings as lists of numbers -/
def pick (ts : List Tie) (S : List Nat) : List Tie := S.map fun i => ts.getD i (0, 0)
def rest (ts : List Tie) (t : Nat) : List Nat := List.range' t (ts.length - t)
/-- all hangings that begin with some and have else ties from t on -/
noncomputable def HH (n : Nat) (ts : List Tie) (some : List Nat) (t : Nat) : List (List Nat) := ((subs (rest ts t) (n - 1 - some.length)).map (some ++ ·)).filter fun S => connP n (pick ts S)
noncomputable def allH (n : Nat) (ts : List Tie) : List (List Nat) := HH n ts [] 0
section
variable {n : Nat} {ts : List Tie} {some S : List Nat} {t : Nat}
theorem rest_cons (h : t < ts.length) : rest ts t = t :: rest ts (t + 1) := by
  unfold rest
  obtain ⟨k, hk⟩ : ∃ k, ts.length - t = k + 1 := ⟨ts.length - t - 1, by omega⟩
  rw [hk, show ts.length - (t + 1) = k by omega]
  rfl
theorem rest_end (h : ts.length ≤ t) : rest ts t = [] := by
  unfold rest
  rw [show ts.length - t = 0 by omega]
  rfl
theorem mem_rest {i : Nat} : i ∈ rest ts t ↔ t ≤ i ∧ i < ts.length := by
  unfold rest
  rw [List.mem_range'_1]
  omega
theorem rest_nodup : (rest ts t).Nodup := List.nodup_range'
theorem pick_app (A B : List Nat) : pick ts (A ++ B) = pick ts A ++ pick ts B := List.map_append
theorem pick_rest : pick ts (rest ts t) = ts.drop t := by
  refine List.ext_getElem? fun i => ?_
  unfold pick rest
  rw [List.getElem?_map, List.getElem?_drop]
  by_cases c : i < ts.length - t
  · rw [List.getElem?_range' c, List.getElem?_eq_getElem (show t + i < ts.length by omega)]
    show Option.some (ts.getD (t + 1 * i) (0, 0)) = _
    rw [Nat.one_mul, List.getD_eq_getElem?_getD, List.getElem?_eq_getElem (show t + i < ts.length by omega)]
    rfl
  · rw [List.getElem?_eq_none (by rw [List.length_range']; omega), List.getElem?_eq_none (by omega)]
    rfl
theorem pick_all : pick ts (List.range ts.length) = ts := by
  have := pick_rest (ts := ts) (t := 0)
  unfold rest at this
  rw [Nat.sub_zero, ← List.range_eq_range'] at this
  exact this
def InS (m : Nat) (S : List Nat) : Prop := ∀ i, i ∈ S → i < m
theorem pick_inb (h : Inb n ts) (k : InS ts.length S) : Inb n (pick ts S) := fun t ht => by
  obtain ⟨i, hi, rfl⟩ := List.mem_map.mp ht
  rw [List.getD_eq_getElem?_getD, List.getElem?_eq_getElem (k i hi)]
  exact h _ (List.getElem_mem _)
theorem pick_len : (pick ts S).length = S.length := List.length_map ..
theorem drop_inb (h : Inb n ts) : Inb n (ts.drop t) := fun u hu => h u (List.mem_of_mem_drop hu)
theorem subs_rest {k : Nat} {R : List Nat} (h : R ∈ subs (rest ts t) k) : InS ts.length R := fun i hi => (mem_rest.mp ((subs_sub h).subset hi)).2
theorem mem_HH : S ∈ HH n ts some t ↔ Conn n (pick ts S) ∧ ∃ R, R.Sublist (rest ts t) ∧ R.length = n - 1 - some.length ∧ S = some ++ R := by
  unfold HH
  rw [List.mem_filter, connP_iff, List.mem_map]
  constructor
  · rintro ⟨⟨R, hR, rfl⟩, c⟩
    exact ⟨c, R, subs_sub hR, subs_len hR, rfl⟩
  · rintro ⟨c, R, h1, h2, rfl⟩
    exact ⟨⟨R, h2 ▸ mem_subs h1, rfl⟩, c⟩
theorem HH_zero (h : n - 1 ≤ some.length) (t u : Nat) : HH n ts some t = HH n ts some u := by
  unfold HH
  rw [show n - 1 - some.length = 0 by omega, subs_zero, subs_zero]
theorem HH_split (h : some.length < n - 1) (ht : t < ts.length) : HH n ts some t = HH n ts (some ++ [t]) (t + 1) ++ HH n ts some (t + 1) := by
  unfold HH
  rw [List.length_append, List.length_singleton, rest_cons ht]
  obtain ⟨k, hk⟩ : ∃ k, n - 1 - some.length = k + 1 := ⟨n - 1 - some.length - 1, by omega⟩
  rw [hk, show n - 1 - (some.length + 1) = k by omega]
  show ((((subs (rest ts (t + 1)) k).map (t :: ·)) ++ subs (rest ts (t + 1)) (k + 1)).map (some ++ ·)).filter _ = _
  rw [List.map_append, List.filter_append, List.map_map]
  congr 3
  funext R
  simp
theorem app_sub {A R : List Nat} {ts : List Tie} (h : InS ts.length A) (hR : ∀ i, i ∈ R → i < ts.length) : InS ts.length (A ++ R) := fun i hi => (List.mem_append.mp hi).elim (h i) (hR i)
/-- one that can't be gone on from -/
theorem HH_shut (hb : Inb n ts) (hn : 0 < n) (hs : InS ts.length some) (hl : some.length ≤ n - 1) (f : ¬ Forest n (pick ts some)) : HH n ts some t = [] := by
  refine List.eq_nil_iff_forall_not_mem.mpr fun S hS => ?_
  obtain ⟨c, R, h1, h2, rfl⟩ := mem_HH.mp hS
  have rb : ∀ i, i ∈ R → i < ts.length := fun i hi => (mem_rest.mp (h1.subset hi)).2
  have ib := pick_inb hb (app_sub hs rb)
  have fr := tree_forest ib hn c (by rw [pick_len, List.length_append]; omega)
  rw [pick_app] at fr ib
  exact f (forest_front ib fr)
theorem tie_at (hb : Inb n ts) (ht : t < ts.length) : (ts.getD t (0, 0)).1 < n ∧ (ts.getD t (0, 0)).2 < n := by
  rw [List.getD_eq_getElem?_getD, List.getElem?_eq_getElem ht]
  exact hb _ (List.getElem_mem _)
theorem pick_push : pick ts (some ++ [t]) = pick ts some ++ [((ts.getD t (0, 0)).1, (ts.getD t (0, 0)).2)] := by
  rw [pick_app]
  rfl
/-- a tie leads on -/
def isOpen (n : Nat) (ts : List Tie) (some : List Nat) (t : Nat) : Prop := mk n (pick ts some) (ts.getD t (0, 0)).1 ≠ mk n (pick ts some) (ts.getD t (0, 0)).2
theorem open_forest (hb : Inb n ts) (hs : InS ts.length some) (ht : t < ts.length) : Forest n (pick ts (some ++ [t])) ↔ Forest n (pick ts some) ∧ isOpen n ts some t := by
  have b := tie_at hb ht
  rw [pick_push]
  exact forest_push (pick_inb hb hs) b.1 b.2
theorem open_less (hb : Inb n ts) (hn : 0 < n) (hs : InS ts.length some) (ht : t < ts.length) (f : Forest n (pick ts some)) (o : isOpen n ts some t) : some.length < n - 1 := by
  have b := tie_at hb ht
  have := forest_open (pick_inb hb hs) hn f b.1 b.2 o
  rw [pick_len] at this
  exact this
theorem HH_open (hb : Inb n ts) (hn : 0 < n) (hs : InS ts.length some) (ht : t < ts.length) (f : Forest n (pick ts some)) (o : isOpen n ts some t) : HH n ts some t = HH n ts (some ++ [t]) (t + 1) ++ HH n ts some (t + 1) :=
  HH_split (open_less hb hn hs ht f o) ht
theorem push_in (hs : InS ts.length some) (ht : t < ts.length) : InS ts.length (some ++ [t]) := app_sub hs fun i hi => by rw [List.mem_singleton.mp hi]; exact ht
theorem HH_closed (hb : Inb n ts) (hn : 0 < n) (hs : InS ts.length some) (ht : t < ts.length) (f : Forest n (pick ts some)) (o : ¬ isOpen n ts some t) : HH n ts some t = HH n ts some (t + 1) := by
  by_cases c : some.length < n - 1
  · rw [HH_split c ht, HH_shut hb hn (push_in hs ht) (by rw [List.length_append, List.length_singleton]; omega) fun z => o ((open_forest hb hs ht).mp z).2]
    rfl
  · exact HH_zero (by omega) _ _
theorem HH_none (k : ¬ Conn n (pick ts some ++ ts.drop t)) : HH n ts some t = [] := by
  refine List.eq_nil_iff_forall_not_mem.mpr fun S hS => ?_
  obtain ⟨c, R, h1, h2, rfl⟩ := mem_HH.mp hS
  refine k (conn_mono c fun u hu => ?_)
  rw [pick_app] at hu
  refine List.mem_append.mpr ((List.mem_append.mp hu).imp_right fun z => ?_)
  rw [← pick_rest]
  exact (h1.map _).subset z
theorem HH_end (hb : Inb n ts) (hn : 0 < n) (hs : InS ts.length some) (ht : ts.length ≤ t) (f : Forest n (pick ts some)) (k : Conn n (pick ts some)) : HH n ts some t = [some] := by
  have l := forest_tree (pick_inb hb hs) hn k f
  rw [pick_len] at l
  unfold HH
  rw [rest_end ht, show n - 1 - some.length = 0 by omega]
  show ([some ++ []] : List (List Nat)).filter _ = _
  rw [List.append_nil, List.filter_cons, if_pos (connP_iff.mpr k)]
  rfl
theorem drop_cons (ht : t < ts.length) : ts.drop t = ts.getD t (0, 0) :: ts.drop (t + 1) := by
  rw [List.drop_eq_getElem_cons ht, List.getD_eq_getElem?_getD, List.getElem?_eq_getElem ht]
  rfl
theorem conn_closed (hb : Inb n ts) (hs : InS ts.length some) (ht : t < ts.length) (o : ¬ isOpen n ts some t) : Conn n (pick ts some ++ ts.drop t) ↔ Conn n (pick ts some ++ ts.drop (t + 1)) := by
  have b := tie_at hb ht
  have c : Cn (pick ts some) (ts.getD t (0, 0)).1 (ts.getD t (0, 0)).2 := (mk_iff (pick_inb hb hs) b.1 b.2).mp (Classical.byContradiction o)
  have c' : Cn (pick ts some ++ ts.drop (t + 1)) (ts.getD t (0, 0)).1 (ts.getD t (0, 0)).2 := c.mono fun u => List.mem_append_left _
  rw [drop_cons ht]
  constructor
  · intro k a ha
    have k2 : Cn (((ts.getD t (0, 0)).1, (ts.getD t (0, 0)).2) :: (pick ts some ++ ts.drop (t + 1))) 0 a := (k a ha).mono fun u hu => by
      rcases List.mem_append.mp hu with z | z
      · exact List.mem_cons_of_mem _ (List.mem_append_left _ z)
      · rcases List.mem_cons.mp z with z | z
        · rw [z]; exact List.mem_cons_self
        · exact List.mem_cons_of_mem _ (List.mem_append_right _ z)
    rcases k2.cons with z | ⟨z1, z2⟩ | ⟨z1, z2⟩
    · exact z
    · exact z1.trans (c'.trans z2)
    · exact z1.trans (c'.symm.trans z2)
  · exact fun k => conn_mono k fun u hu => List.mem_append.mpr ((List.mem_append.mp hu).imp_right (List.mem_cons_of_mem _))
theorem conn_taken (ht : t < ts.length) : Conn n (pick ts (some ++ [t]) ++ ts.drop (t + 1)) ↔ Conn n (pick ts some ++ ts.drop t) := by
  rw [pick_push, drop_cons ht, List.append_assoc]
  exact Iff.rfl
/-- where it can be gone on there is one -/
theorem HH_some (hb : Inb n ts) (hn : 0 < n) : ∀ (k t : Nat) (sm : List Nat), ts.length - t ≤ k → InS ts.length sm → Forest n (pick ts sm) → Conn n (pick ts sm ++ ts.drop t) → HH n ts sm t ≠ []
  | 0, t, sm, hk, hs, f, c => by
    rw [List.drop_of_length_le (by omega), List.append_nil] at c
    rw [HH_end hb hn hs (by omega) f c]
    exact fun z => nomatch z
  | k + 1, t, sm, hk, hs, f, c => by
    by_cases ht : t < ts.length
    · by_cases o : isOpen n ts sm t
      · rw [HH_open hb hn hs ht f o]
        intro z
        exact HH_some hb hn k (t + 1) (sm ++ [t]) (by omega) (push_in hs ht) ((open_forest hb hs ht).mpr ⟨f, o⟩) ((conn_taken ht).mpr c) (List.append_eq_nil_iff.mp z).1
      · rw [HH_closed hb hn hs ht f o]
        exact HH_some hb hn k (t + 1) sm (by omega) hs f ((conn_closed hb hs ht o).mp c)
    · rw [List.drop_of_length_le (by omega), List.append_nil] at c
      rw [HH_end hb hn hs (by omega) f c]
      exact fun z => nomatch z
theorem allH_len : (allH n ts).length = T n ts := by
  unfold allH HH T
  have e : ts = pick ts (rest ts 0) := by rw [pick_rest]; rfl
  rw [show subs ts (n - 1) = (subs (rest ts 0) (n - 1)).map (pick ts) by
    conv => lhs; rw [e]
    exact subs_map _ _ _]
  rw [List.countP_map, ← List.countP_eq_length_filter, List.countP_map]
  rfl
theorem T_pos (hb : Inb n ts) (hn : 0 < n) : 0 < T n ts ↔ Conn n ts := by
  rw [← allH_len]
  constructor
  · intro h
    refine Classical.byContradiction fun z => ?_
    have e : allH n ts = [] := HH_none (by simpa [pick] using z)
    rw [e] at h
    exact absurd h (Nat.lt_irrefl 0)
  · intro c
    exact List.length_pos_iff.mpr (HH_some hb hn _ 0 [] (Nat.le_refl _) (fun i h => (nomatch h)) forest_nil (by simpa [pick] using c))
/-- how many begin so: the tally of the parts' net -/
theorem HH_len (hb : Inb n ts) (hn : 0 < n) (hs : InS ts.length some) (f : Forest n (pick ts some)) : (HH n ts some t).length = T (comps n (pick ts some)) (qt n (pick ts some) (ts.drop t)) := by
  have pb := pick_inb hb hs
  have l : comps n (pick ts some) - 1 = n - 1 - some.length := by
    unfold Forest at f
    rw [pick_len] at f
    omega
  unfold HH T
  rw [l, ← pick_rest]
  rw [show qt n (pick ts some) (pick ts (rest ts t)) = (rest ts t).map fun i => (qp n (pick ts some) (ts.getD i (0, 0)).1, qp n (pick ts some) (ts.getD i (0, 0)).2) by
    unfold qt pick
    rw [List.map_map]
    rfl]
  rw [subs_map, ← List.countP_eq_length_filter, List.countP_map, List.countP_map]
  refine countP_eq fun R hR => ?_
  rw [Bool.eq_iff_iff]
  show connP n (pick ts (some ++ R)) = true ↔ connP _ (R.map _) = true
  rw [connP_iff, connP_iff, pick_app, conn_q pb (pick_inb hb (subs_rest hR)) hn]
  unfold qt pick
  rw [List.map_map]
  exact Iff.rfl
/-! the order -/
/-- lists' order -/
def lexLt : List Nat → List Nat → Prop
  | [], [] => False
  | [], _ :: _ => True
  | _ :: _, [] => False
  | a :: as, b :: bs => a < b ∨ (a = b ∧ lexLt as bs)
theorem subs_lex : ∀ {l : List Nat} {k : Nat}, l.Pairwise (· < ·) → (subs l k).Pairwise lexLt
  | l, 0, _ => by rw [subs_zero]; exact List.pairwise_singleton _ _
  | [], k + 1, _ => List.Pairwise.nil
  | x :: l, k + 1, h => by
    have hc := List.pairwise_cons.mp h
    show ((subs l k).map (x :: ·) ++ subs l (k + 1)).Pairwise lexLt
    rw [List.pairwise_append]
    refine ⟨List.pairwise_map.mpr ((subs_lex hc.2).imp fun h => .inr ⟨rfl, h⟩), subs_lex hc.2, fun A hA B hB => ?_⟩
    obtain ⟨A', _, rfl⟩ := List.mem_map.mp hA
    have lB := subs_len hB
    have sB := subs_sub hB
    cases B with
    | nil => cases lB
    | cons b B => exact .inl (hc.1 b (sB.subset List.mem_cons_self))
theorem lex_app {A B : List Nat} : ∀ (some : List Nat), lexLt A B → lexLt (some ++ A) (some ++ B)
  | [], h => h
  | x :: sm, h => .inr ⟨rfl, lex_app sm h⟩
theorem rest_rise : (rest ts t).Pairwise (· < ·) := List.pairwise_lt_range'
theorem HH_lex : (HH n ts some t).Pairwise lexLt := (List.pairwise_map.mpr ((subs_lex rest_rise).imp (lex_app some))).sublist List.filter_sublist
theorem lex_irrefl : ∀ A : List Nat, ¬ lexLt A A
  | [], h => h
  | a :: A, h => h.elim (Nat.lt_irrefl a) fun z => lex_irrefl A z.2
theorem HH_nodup : (HH n ts some t).Nodup := List.Pairwise.imp (fun {a b} (h : lexLt a b) (e : a = b) => lex_irrefl b (by rw [e] at h; exact h)) HH_lex
theorem allH_mem (h : S ∈ allH n ts) : S.Sublist (List.range ts.length) ∧ S.length = n - 1 ∧ Conn n (pick ts S) := by
  obtain ⟨c, R, h1, h2, rfl⟩ := mem_HH.mp h
  unfold rest at h1
  rw [Nat.sub_zero, ← List.range_eq_range'] at h1
  exact ⟨h1, h2, c⟩
theorem rise_sub : ∀ (k t : Nat) (S : List Nat), S.Pairwise (· < ·) → (∀ i, i ∈ S → t ≤ i ∧ i < t + k) → S.Sublist (List.range' t k)
  | 0, t, [], _, _ => List.nil_sublist _
  | 0, t, a :: S, _, h => by
    have := h a List.mem_cons_self
    omega
  | k + 1, t, [], _, _ => List.nil_sublist _
  | k + 1, t, a :: S, p, h => by
    have pc := List.pairwise_cons.mp p
    have ha := h a List.mem_cons_self
    show (a :: S).Sublist (t :: List.range' (t + 1) k)
    by_cases c : a = t
    · subst c
      exact (rise_sub k (a + 1) S pc.2 fun i hi => by
        have := pc.1 i hi
        have := h i (List.mem_cons_of_mem _ hi)
        omega).cons_cons a
    · exact (rise_sub k (t + 1) (a :: S) p fun i hi => by
        have q := h i hi
        rcases List.mem_cons.mp hi with z | z
        · omega
        · have := pc.1 i z
          omega).cons t
theorem mem_allH : S ∈ allH n ts ↔ S.Pairwise (· < ·) ∧ InS ts.length S ∧ S.length = n - 1 ∧ Conn n (pick ts S) := by
  constructor
  · intro h
    obtain ⟨h1, h2, h3⟩ := allH_mem h
    exact ⟨List.pairwise_lt_range.sublist h1, fun i hi => List.mem_range.mp (h1.subset hi), h2, h3⟩
  · rintro ⟨h1, h2, h3, h4⟩
    refine mem_HH.mpr ⟨h4, S, rise_sub _ _ S h1 fun i hi => ⟨Nat.zero_le _, by have := h2 i hi; omega⟩, by simpa using h3, rfl⟩
end
end TT

namespace TT
/-! in how many each stands -/
theorem filter_subs {α : Type} {p : α → Bool} : ∀ (l : List α) (k : Nat), (subs l k).filter (fun S => S.all p) = subs (l.filter p) k
  | l, 0 => by rw [subs_zero, subs_zero]; rfl
  | [], k + 1 => rfl
  | x :: l, k + 1 => by
    show ((subs l k).map (x :: ·) ++ subs l (k + 1)).filter (fun S => S.all p) = _
    rw [List.filter_append, filter_subs l (k + 1), List.filter_map, List.filter_cons]
    by_cases c : p x = true
    · rw [if_pos c]
      show _ = (subs (l.filter p) k).map (x :: ·) ++ _
      rw [← filter_subs l k]
      congr 2
      refine List.filter_congr fun S _ => ?_
      show (p x && S.all p) = S.all p
      rw [c]
      rfl
    · rw [if_neg c]
      have e : (subs l k).filter ((fun S => S.all p) ∘ fun S => x :: S) = [] := List.filter_eq_nil_iff.mpr fun S _ => by
        show ¬ (p x && S.all p) = true
        rw [Bool.eq_false_iff.mpr c]
        exact Bool.false_ne_true
      rw [e]
      rfl
/-- in how many hangings j stands -/
noncomputable def cnt (n : Nat) (ts : List Tie) (j : Nat) : Nat := (allH n ts).countP fun S => decide (j ∈ S)
section
variable {n : Nat} {ts : List Tie} {some S : List Nat} {t j : Nat}
theorem allH_eq : allH n ts = (subs (List.range ts.length) (n - 1)).filter fun S => connP n (pick ts S) := by
  unfold allH HH rest
  rw [Nat.sub_zero, ← List.range_eq_range']
  congr 1
  exact (List.map_congr_left fun _ _ => rfl).trans (List.map_id _)
theorem cnt_out (hj : j < ts.length) : (allH n ts).countP (fun S => !decide (j ∈ S)) = T n (ts.eraseIdx j) := by
  unfold T
  rw [← without_eq hj, subs_map, ← filter_subs, allH_eq, List.countP_map, List.countP_filter, List.countP_filter]
  refine countP_eq fun S _ => ?_
  show (!decide (j ∈ S) && connP n (pick ts S)) = (connP n (pick ts S) && S.all fun p => !decide (p = j))
  rw [Bool.and_comm]
  congr 1
  rw [Bool.eq_iff_iff]
  simp only [Bool.not_eq_true', decide_eq_false_iff_not, List.all_eq_true]
  exact ⟨fun h p hp e => h (e ▸ hp), fun h m => h j m rfl⟩
theorem cnt_add (hj : j < ts.length) : cnt n ts j + T n (ts.eraseIdx j) = T n ts := by
  rw [← cnt_out hj, ← allH_len (ts := ts)]
  unfold cnt
  rw [List.length_eq_countP_add_countP (fun S => decide (j ∈ S))]
  congr 1
  refine countP_eq fun S _ => ?_
  by_cases c : j ∈ S <;> simp [c]
theorem cnt_loop (hb : Inb n ts) (hn : 0 < n) (hj : j < ts.length) (e : (ts.getD j (0, 0)).1 = (ts.getD j (0, 0)).2) : cnt n ts j = 0 := by
  have := cnt_add (n := n) hj
  have := T_out hn hb hj e
  omega
theorem cnt_share (hb : Inb n ts) (hj : j < ts.length) (e : (ts.getD j (0, 0)).1 ≠ (ts.getD j (0, 0)).2) :
    cnt n ts j = T (n - 1) (contract (min (ts.getD j (0, 0)).1 (ts.getD j (0, 0)).2) (max (ts.getD j (0, 0)).1 (ts.getD j (0, 0)).2) (ts.eraseIdx j)) := by
  have := cnt_add (n := n) hj
  have := T_both hb hj e
  omega
theorem filter_mem {α : Type} [DecidableEq α] {S l : List α} (h : S.Sublist l) : l.Nodup → l.countP (fun j => decide (j ∈ S)) = S.length := by
  induction h with
  | slnil => exact fun _ => rfl
  | @cons S l x h ih =>
    intro nd
    have nd' := List.nodup_cons.mp nd
    rw [List.countP_cons, ih nd'.2, if_neg (by simpa using fun z => nd'.1 (h.subset z))]
    rfl
  | @cons_cons S l x h ih =>
    intro nd
    have nd' := List.nodup_cons.mp nd
    rw [List.countP_cons, List.length_cons, if_pos (by simp)]
    congr 1
    rw [← ih nd'.2]
    refine countP_eq fun j hj => ?_
    have : j ≠ x := fun z => nd'.1 (z ▸ hj)
    rw [Bool.eq_iff_iff]
    simp [this]
theorem sum_map_add {α : Type} (f g : α → Nat) : ∀ l : List α, (l.map fun x => f x + g x).sum = (l.map f).sum + (l.map g).sum
  | [] => rfl
  | x :: l => by
    have ih := sum_map_add f g l
    simp only [List.map_cons, List.sum_cons, ih]
    omega
theorem sum_map_countP {α : Type} (p : α → Bool) : ∀ l : List α, (l.map fun x => if p x = true then 1 else 0).sum = l.countP p
  | [] => rfl
  | x :: l => by
    rw [List.map_cons, List.sum_cons, sum_map_countP p l, List.countP_cons]
    omega
theorem sum_cnt_gen {m k : Nat} : ∀ L : List (List Nat), (∀ S, S ∈ L → S.Sublist (List.range m) ∧ S.length = k) → ((List.range m).map fun j => L.countP fun S => decide (j ∈ S)).sum = L.length * k
  | [], _ => by
    rw [show ((List.range m).map fun j => ([] : List (List Nat)).countP fun S => decide (j ∈ S)) = (List.range m).map fun _ => 0 from rfl]
    have : ∀ l : List Nat, (l.map fun _ => 0).sum = 0 := fun l => by
      induction l with
      | nil => rfl
      | cons _ _ ih => rw [List.map_cons, List.sum_cons, ih]
    rw [this]
    simp
  | S :: L, h => by
    have ih := sum_cnt_gen (m := m) (k := k) L fun S hS => h S (List.mem_cons_of_mem _ hS)
    have hS := h S List.mem_cons_self
    have e : ((List.range m).map fun j => (S :: L).countP fun S => decide (j ∈ S)) = (List.range m).map fun j => (L.countP fun S => decide (j ∈ S)) + if decide (j ∈ S) = true then 1 else 0 :=
      List.map_congr_left fun j _ => List.countP_cons
    rw [e, sum_map_add, ih, sum_map_countP, filter_mem hS.1 List.nodup_range, hS.2, List.length_cons, Nat.succ_mul]
theorem sum_cnt : ((List.range ts.length).map (cnt n ts)).sum = T n ts * (n - 1) := by
  have := sum_cnt_gen (allH n ts) fun S h => ⟨(allH_mem h).1, (allH_mem h).2.1⟩
  rw [allH_len] at this
  exact this
/-! hangings grown, all of them -/
noncomputable def opens (n : Nat) (ts : List Tie) (sm : List Nat) (t : Nat) : Bool := !decide (mk n (pick ts sm) (ts.getD t (0, 0)).1 = mk n (pick ts sm) (ts.getD t (0, 0)).2)
theorem opens_iff : opens n ts some t = true ↔ isOpen n ts some t := by
  unfold opens isOpen
  rw [Bool.not_eq_true', decide_eq_false_iff_not]
noncomputable def led (n : Nat) (ts : List Tie) (sm : List Nat) (t : Nat) : List (List Nat) := (if opens n ts sm t = true then [sm ++ [t]] else []) ++ if connP n (pick ts sm ++ ts.drop (t + 1)) = true then [sm] else []
/-- what can be gone on from -/
structure Good (n : Nat) (ts : List Tie) (t : Nat) (sm : List Nat) : Prop where
  ins : InS ts.length sm
  fo : Forest n (pick ts sm)
  cn : Conn n (pick ts sm ++ ts.drop t)
theorem led_good (hb : Inb n ts) (hn : 0 < n) (ht : t < ts.length) {sm : List Nat} (g : Good n ts t sm) : ∀ s, s ∈ led n ts sm t → Good n ts (t + 1) s := fun s hs => by
  unfold led at hs
  rcases List.mem_append.mp hs with h | h
  · split at h
    · rename_i o
      rw [List.mem_singleton.mp h]
      exact ⟨push_in g.ins ht, (open_forest hb g.ins ht).mpr ⟨g.fo, opens_iff.mp o⟩, (conn_taken ht).mpr g.cn⟩
    · cases h
  · split at h
    · rename_i c
      rw [List.mem_singleton.mp h]
      exact ⟨g.ins, g.fo, connP_iff.mp c⟩
    · cases h
theorem led_HH (hb : Inb n ts) (hn : 0 < n) (ht : t < ts.length) {sm : List Nat} (g : Good n ts t sm) : (led n ts sm t).flatMap (fun s => HH n ts s (t + 1)) = HH n ts sm t := by
  unfold led
  have part2 : (if connP n (pick ts sm ++ ts.drop (t + 1)) = true then [sm] else []).flatMap (fun s => HH n ts s (t + 1)) = HH n ts sm (t + 1) := by
    split
    · simp
    · rename_i c
      rw [HH_none fun z => c (connP_iff.mpr z)]
      rfl
  rw [List.flatMap_append, part2]
  by_cases o : opens n ts sm t = true
  · rw [if_pos o, HH_open hb hn g.ins ht g.fo (opens_iff.mp o)]
    simp
  · rw [if_neg o, HH_closed hb hn g.ins ht g.fo fun z => o (opens_iff.mpr z)]
    simp
noncomputable def rowsAt (n : Nat) (ts : List Tie) : Nat → List (List Nat)
  | 0 => if connP n ts = true then [[]] else []
  | t + 1 => (rowsAt n ts t).flatMap fun sm => led n ts sm t
theorem rowsAt_ok (hb : Inb n ts) (hn : 0 < n) : ∀ t, t ≤ ts.length → (∀ s, s ∈ rowsAt n ts t → Good n ts t s) ∧ (rowsAt n ts t).flatMap (fun s => HH n ts s t) = allH n ts
  | 0, _ => by
    unfold rowsAt
    by_cases c : connP n ts = true
    · rw [if_pos c]
      refine ⟨fun s hs => ?_, by simp [allH]⟩
      rw [List.mem_singleton.mp hs]
      exact ⟨fun i h => (nomatch h), forest_nil, by simpa [pick] using connP_iff.mp c⟩
    · rw [if_neg c]
      refine ⟨fun s hs => (nomatch hs), ?_⟩
      have : allH n ts = [] := HH_none fun z => c (connP_iff.mpr (by simpa [pick] using z))
      rw [this]
      rfl
  | t + 1, ht => by
    obtain ⟨g, e⟩ := rowsAt_ok hb hn t (by omega)
    unfold rowsAt
    refine ⟨fun s hs => ?_, ?_⟩
    · obtain ⟨sm, h1, h2⟩ := List.mem_flatMap.mp hs
      exact led_good hb hn (by omega) (g sm h1) s h2
    · rw [List.flatMap_assoc, ← e]
      have : ∀ l : List (List Nat), (∀ s, s ∈ l → Good n ts t s) → l.flatMap (fun x => (led n ts x t).flatMap fun s => HH n ts s (t + 1)) = l.flatMap fun s => HH n ts s t := fun l => by
        induction l with
        | nil => exact fun _ => rfl
        | cons x l ih =>
          intro h
          rw [List.flatMap_cons, List.flatMap_cons, led_HH hb hn (by omega) (h x List.mem_cons_self), ih fun s hs => h s (List.mem_cons_of_mem _ hs)]
      exact this _ g
theorem rowsAt_end (hb : Inb n ts) (hn : 0 < n) : rowsAt n ts ts.length = allH n ts := by
  obtain ⟨g, e⟩ := rowsAt_ok hb hn ts.length (Nat.le_refl _)
  rw [← e]
  have : ∀ l : List (List Nat), (∀ s, s ∈ l → Good n ts ts.length s) → l.flatMap (fun s => HH n ts s ts.length) = l := fun l => by
    induction l with
    | nil => exact fun _ => rfl
    | cons x l ih =>
      intro h
      have gx := h x List.mem_cons_self
      have c := gx.cn
      rw [List.drop_length, List.append_nil] at c
      rw [List.flatMap_cons, HH_end hb hn gx.ins (Nat.le_refl _) gx.fo c, ih fun s hs => h s (List.mem_cons_of_mem _ hs)]
      rfl
  exact (this _ g).symm
theorem rowsAt_len (hb : Inb n ts) (hn : 0 < n) (ht : t ≤ ts.length) : (rowsAt n ts t).length ≤ T n ts := by
  obtain ⟨g, e⟩ := rowsAt_ok hb hn t ht
  rw [← allH_len, ← e]
  have : ∀ l : List (List Nat), (∀ s, s ∈ l → Good n ts t s) → l.length ≤ (l.flatMap fun s => HH n ts s t).length := fun l => by
    induction l with
    | nil => exact fun _ => Nat.le_refl _
    | cons x l ih =>
      intro h
      have gx := h x List.mem_cons_self
      have p := List.length_pos_iff.mpr (HH_some hb hn _ t x (Nat.le_refl _) gx.ins gx.fo gx.cn)
      have := ih fun s hs => h s (List.mem_cons_of_mem _ hs)
      rw [List.flatMap_cons, List.length_append, List.length_cons]
      omega
  exact this _ g
end
end TT

namespace TT
/-! numbers of hangings -/
section
variable {n : Nat} {ts : List Tie} {t : Nat}
/-- how many begin with sm and then t -/
noncomputable def ahead (n : Nat) (ts : List Tie) (sm : List Nat) (t : Nat) : Nat := if opens n ts sm t = true then (HH n ts (sm ++ [t]) (t + 1)).length else 0
theorem HH_step (hb : Inb n ts) (hn : 0 < n) {sm : List Nat} (hs : InS ts.length sm) (ht : t < ts.length) (f : Forest n (pick ts sm)) :
    HH n ts sm t = (if opens n ts sm t = true then HH n ts (sm ++ [t]) (t + 1) else []) ++ HH n ts sm (t + 1) := by
  by_cases o : opens n ts sm t = true
  · rw [if_pos o, HH_open hb hn hs ht f (opens_iff.mp o)]
  · rw [if_neg o, HH_closed hb hn hs ht f fun z => o (opens_iff.mpr z)]
    rfl
/-- the hanging with a number, as it is found tie by tie -/
structure Find (n : Nat) (ts : List Tie) (N t : Nat) (sm : List Nat) (k : Nat) : Prop where
  ins : InS ts.length sm
  fo : Forest n (pick ts sm)
  at_ : (HH n ts sm t)[k]? = (allH n ts)[N]?
  lt : k < (HH n ts sm t).length
  rise : sm.Pairwise (· < ·)
  low : ∀ i, i ∈ sm → i < t
theorem Find.start {N : Nat} (h : N < T n ts) : Find n ts N 0 [] N := ⟨fun i h => (nomatch h), forest_nil, rfl, by rw [← allH_len] at h; exact h, .nil, fun i h => (nomatch h)⟩
theorem Find.take (hb : Inb n ts) (hn : 0 < n) {N k : Nat} {sm : List Nat} (F : Find n ts N t sm k) (ht : t < ts.length) (h : k < ahead n ts sm t) : Find n ts N (t + 1) (sm ++ [t]) k := by
  unfold ahead at h
  split at h
  · rename_i o
    have e := HH_step hb hn F.ins ht F.fo
    rw [if_pos o] at e
    refine ⟨push_in F.ins ht, (open_forest hb F.ins ht).mpr ⟨F.fo, opens_iff.mp o⟩, ?_, h, ?_, fun i hi => ?_⟩
    · rw [← F.at_, e, List.getElem?_append_left h]
    · rw [List.pairwise_append]
      exact ⟨F.rise, List.pairwise_singleton _ _, fun a ha b hb => by rw [List.mem_singleton.mp hb]; exact F.low a ha⟩
    · rcases List.mem_append.mp hi with z | z
      · have := F.low i z; omega
      · rw [List.mem_singleton.mp z]; omega
  · exact absurd h (Nat.not_lt_zero _)
theorem Find.leave (hb : Inb n ts) (hn : 0 < n) {N k : Nat} {sm : List Nat} (F : Find n ts N t sm k) (ht : t < ts.length) (h : ¬ k < ahead n ts sm t) : Find n ts N (t + 1) sm (k - ahead n ts sm t) := by
  have e := HH_step hb hn F.ins ht F.fo
  have l : (if opens n ts sm t = true then HH n ts (sm ++ [t]) (t + 1) else []).length = ahead n ts sm t := by
    unfold ahead
    split <;> rfl
  refine ⟨F.ins, F.fo, ?_, ?_, F.rise, fun i hi => by have := F.low i hi; omega⟩
  · rw [← F.at_, e, List.getElem?_append_right (by rw [l]; omega), l]
  · have := F.lt
    rw [e, List.length_append, l] at this
    omega
theorem HH_last (h : ts.length ≤ t) {sm : List Nat} {k : Nat} (hk : k < (HH n ts sm t).length) : HH n ts sm t = [sm] ∧ k = 0 := by
  have e : (HH n ts sm t) = if n - 1 - sm.length = 0 then (if connP n (pick ts sm) = true then [sm] else []) else [] := by
    unfold HH
    rw [rest_end h]
    cases n - 1 - sm.length with
    | zero =>
      show ([sm ++ []] : List (List Nat)).filter _ = _
      rw [List.append_nil, if_pos rfl, List.filter_cons]
      rfl
    | succ j =>
      rw [if_neg (by omega)]
      rfl
  rw [e] at hk ⊢
  split at hk
  · rename_i z
    split at hk
    · rename_i c
      rw [if_pos z, if_pos c]
      simp at hk
      exact ⟨rfl, hk⟩
    · exact absurd hk (Nat.not_lt_zero _)
  · exact absurd hk (Nat.not_lt_zero _)
theorem Find.done {N k : Nat} {sm : List Nat} (F : Find n ts N ts.length sm k) : (allH n ts)[N]? = some sm := by
  obtain ⟨e, z⟩ := HH_last (Nat.le_refl _) F.lt
  rw [← F.at_, e, z]
  rfl
/-- what the number of S is so far -/
def below (S : List Nat) (t : Nat) : List Nat := S.filter fun i => decide (i < t)
theorem below_rise {S : List Nat} (h : S.Pairwise (· < ·)) (t : Nat) : below S (t + 1) = below S t ++ if t ∈ S then [t] else [] := by
  induction S with
  | nil => simp [below]
  | cons a S ih =>
    have hc := List.pairwise_cons.mp h
    have ih := ih hc.2
    unfold below at ih ⊢
    rw [List.filter_cons, List.filter_cons, ih]
    by_cases c : a = t
    · subst c
      have e : S.filter (fun i => decide (i < a)) = [] := List.filter_eq_nil_iff.mpr fun i hi => by
        have := hc.1 i hi
        simp; omega
      have e2 : a ∉ S := fun z => Nat.lt_irrefl a (hc.1 a z)
      rw [e, if_neg e2]
      simp
    · by_cases d : a < t
      · rw [if_pos (show decide (a < t + 1) = true from decide_eq_true (by omega)), if_pos (show decide (a < t) = true from decide_eq_true d)]
        have this : (t ∈ a :: S) ↔ t ∈ S := ⟨fun z => (List.mem_cons.mp z).resolve_left fun q => c q.symm, List.mem_cons_of_mem _⟩
        simp only [this]
        rfl
      · rw [if_neg (show ¬ decide (a < t + 1) = true from fun z => by have := of_decide_eq_true z; omega), if_neg (show ¬ decide (a < t) = true from fun z => d (of_decide_eq_true z))]
        have e : S.filter (fun i => decide (i < t)) = [] := List.filter_eq_nil_iff.mpr fun i hi => by
          have := hc.1 i hi
          simp; omega
        have e2 : t ∉ a :: S := fun z => by
          rcases List.mem_cons.mp z with z | z
          · exact c z.symm
          · have := hc.1 t z; omega
        have e3 : t ∉ S := fun z => e2 (List.mem_cons_of_mem _ z)
        rw [e, if_neg e2, if_neg e3]
theorem below_all {S : List Nat} {m : Nat} (h : InS m S) : below S m = S := List.filter_eq_self.mpr fun i hi => decide_eq_true (h i hi)
theorem below_forest (hb : Inb n ts) (hn : 0 < n) {S : List Nat} (h : S ∈ allH n ts) (t : Nat) : Forest n (pick ts (below S t)) ∧ InS ts.length (below S t) := by
  obtain ⟨h1, h2, h3, h4⟩ := mem_allH.mp h
  have f := tree_forest (pick_inb hb h2) hn h4 (by rw [pick_len, h3])
  have step : S = below S t ++ S.drop (below S t).length := by
    clear f h2 h3 h4 h
    induction S with
    | nil => simp [below]
    | cons a S ih =>
      have hc := List.pairwise_cons.mp h1
      have ih := ih hc.2
      unfold below at ih ⊢
      rw [List.filter_cons]
      split
      · rw [List.length_cons, List.drop_succ_cons, List.cons_append, ← ih]
      · rename_i c
        have e : S.filter (fun i => decide (i < t)) = [] := List.filter_eq_nil_iff.mpr fun i hi => by
          have := hc.1 i hi
          simp at c ⊢; omega
        rw [e]
        rfl
  refine ⟨?_, fun i hi => h2 i (List.mem_filter.mp hi).1⟩
  have e := step
  have ib := pick_inb hb h2
  rw [e, pick_app] at f ib
  exact forest_front ib f
structure Num (n : Nat) (ts : List Tie) (S : List Nat) (N t k : Nat) : Prop where
  at_ : ∃ j, (HH n ts (below S t) t)[j]? = some S ∧ k + j = N
theorem Num.start {S : List Nat} {N : Nat} (h : (allH n ts)[N]? = some S) : Num n ts S N 0 0 := ⟨N, by
  have e : below S 0 = [] := List.filter_eq_nil_iff.mpr fun i _ => by simp
  rw [e]
  exact h, Nat.zero_add _⟩
theorem not_pre {sm : List Nat} {S : List Nat} {u : Nat} (h : S ∈ HH n ts (sm ++ [t]) u) : t ∈ S := by
  obtain ⟨_, R, _, _, rfl⟩ := mem_HH.mp h
  exact List.mem_append_left _ (List.mem_append_right _ List.mem_cons_self)
theorem rest_in {S : List Nat} {sm : List Nat} (h : S ∈ HH n ts sm (t + 1)) (hs : ∀ i, i ∈ sm → i < t) : t ∉ S := by
  obtain ⟨_, R, h1, _, rfl⟩ := mem_HH.mp h
  intro z
  rcases List.mem_append.mp z with z | z
  · exact Nat.lt_irrefl _ (hs t z)
  · have := (mem_rest.mp (h1.subset z)).1
    omega
theorem Num.step (hb : Inb n ts) (hn : 0 < n) {S : List Nat} {N k : Nat} (hS : S ∈ allH n ts) (F : Num n ts S N t k) (ht : t < ts.length) : Num n ts S N (t + 1) (if t ∈ S then k else k + ahead n ts (below S t) t) := by
  obtain ⟨j, h1, h2⟩ := F.at_
  obtain ⟨fo, hi⟩ := below_forest hb hn hS t
  have rise := (mem_allH.mp hS).1
  have e := HH_step hb hn hi ht fo
  have l : (if opens n ts (below S t) t = true then HH n ts (below S t ++ [t]) (t + 1) else []).length = ahead n ts (below S t) t := by
    unfold ahead
    split <;> rfl
  rw [e, List.getElem?_append, l] at h1
  have br := below_rise rise t
  by_cases c : t ∈ S
  · rw [if_pos c] at br ⊢
    split at h1
    · split at h1
      · exact ⟨j, by rw [br]; exact h1, h2⟩
      · cases h1
    · exact absurd c (rest_in (List.mem_of_getElem? h1) fun i hi => by simpa using (List.mem_filter.mp hi).2)
  · rw [if_neg c, List.append_nil] at br
    rw [if_neg c]
    split at h1
    · split at h1
      · exact absurd (not_pre (List.mem_of_getElem? h1)) c
      · cases h1
    · exact ⟨_, by rw [br]; exact h1, by omega⟩
theorem Num.done {S : List Nat} {N k : Nat} (F : Num n ts S N ts.length k) : k = N := by
  obtain ⟨j, h1, h2⟩ := F.at_
  have := (HH_last (Nat.le_refl _) (List.getElem?_eq_some_iff.mp h1).1).2
  omega
/-- its number -/
noncomputable def numOf (n : Nat) (ts : List Tie) (S : List Nat) : Nat := (allH n ts).idxOf S
theorem numOf_at {S : List Nat} (h : S ∈ allH n ts) : (allH n ts)[numOf n ts S]? = some S := by
  have l := List.idxOf_lt_length_of_mem h
  unfold numOf
  rw [List.getElem?_eq_getElem l, List.getElem_idxOf l]
theorem numOf_of {S : List Nat} {N : Nat} (h : (allH n ts)[N]? = some S) : numOf n ts S = N := by
  obtain ⟨l, e⟩ := List.getElem?_eq_some_iff.mp h
  unfold numOf
  rw [← e]
  exact List.Nodup.idxOf_getElem (xs := allH n ts) HH_nodup N l
theorem allH_lex {i j : Nat} {A B : List Nat} (h : i < j) (h1 : (allH n ts)[i]? = some A) (h2 : (allH n ts)[j]? = some B) : lexLt A B := by
  obtain ⟨l1, e1⟩ := List.getElem?_eq_some_iff.mp h1
  obtain ⟨l2, e2⟩ := List.getElem?_eq_some_iff.mp h2
  rw [← e1, ← e2]
  exact List.pairwise_iff_getElem.mp HH_lex i j l1 l2 h
/-! the first one -/
noncomputable def firstH (n : Nat) (ts : List Tie) : Nat → List Nat
  | 0 => []
  | t + 1 => firstH n ts t ++ if opens n ts (firstH n ts t) t = true then [t] else []
theorem first_ok (hb : Inb n ts) (hn : 0 < n) (c : Conn n ts) : ∀ t, t ≤ ts.length → Good n ts t (firstH n ts t) ∧ (∃ r, allH n ts = HH n ts (firstH n ts t) t ++ r)
  | 0, _ => ⟨⟨fun i h => (nomatch h), forest_nil, by simpa [pick, firstH] using c⟩, [], (List.append_nil _).symm⟩
  | t + 1, ht => by
    obtain ⟨g, r, e⟩ := first_ok hb hn c t (by omega)
    unfold firstH
    by_cases o : opens n ts (firstH n ts t) t = true
    · rw [if_pos o]
      refine ⟨⟨push_in g.ins (by omega), (open_forest hb g.ins (by omega)).mpr ⟨g.fo, opens_iff.mp o⟩, (conn_taken (by omega)).mpr g.cn⟩, HH n ts (firstH n ts t) (t + 1) ++ r, ?_⟩
      rw [e, HH_open hb hn g.ins (by omega) g.fo (opens_iff.mp o), List.append_assoc]
    · rw [if_neg o, List.append_nil]
      have o' : ¬ isOpen n ts (firstH n ts t) t := fun z => o (opens_iff.mpr z)
      exact ⟨⟨g.ins, g.fo, (conn_closed hb g.ins (by omega) o').mp g.cn⟩, r, by rw [e, HH_closed hb hn g.ins (by omega) g.fo o']⟩
theorem first_at (hb : Inb n ts) (hn : 0 < n) (c : Conn n ts) : (allH n ts)[0]? = some (firstH n ts ts.length) := by
  obtain ⟨g, r, e⟩ := first_ok hb hn c ts.length (Nat.le_refl _)
  have k := g.cn
  rw [List.drop_length, List.append_nil] at k
  rw [e, HH_end hb hn g.ins (Nat.le_refl _) g.fo k]
  rfl
end
end TT

namespace TT
/-! exchanges -/
section
variable {n : Nat} {ts : List Tie}
theorem pick_cons (i : Nat) (S : List Nat) : pick ts (i :: S) = ((ts.getD i (0, 0)).1, (ts.getD i (0, 0)).2) :: pick ts S := rfl
theorem pick_mem {A B : List Nat} (h : ∀ i, i ∈ A → i ∈ B) : ∀ t, t ∈ pick ts A → t ∈ pick ts B := fun t ht => by
  obtain ⟨i, hi, rfl⟩ := List.mem_map.mp ht
  exact List.mem_map.mpr ⟨i, h i hi, rfl⟩
abbrev x1 (ts : List Tie) (i : Nat) : Nat := (ts.getD i (0, 0)).1
abbrev x2 (ts : List Tie) (i : Nat) : Nat := (ts.getD i (0, 0)).2
/-- ties' ends that hang together by the others: one too many -/
theorem no_loop (hb : Inb n ts) (hn : 0 < n) {g : Nat} {N : List Nat} (hN : InS ts.length (g :: N)) (hl : (g :: N).length = n - 1) (c : Conn n (pick ts (g :: N))) : ¬ Cn (pick ts N) (x1 ts g) (x2 ts g) := fun k => by
  have ib := pick_inb hb (S := N) fun i hi => hN i (List.mem_cons_of_mem _ hi)
  have c2 : Conn n (pick ts N) := fun a ha => by
    have := c a ha
    rw [pick_cons] at this
    rcases this.cons with z | ⟨z1, z2⟩ | ⟨z1, z2⟩
    · exact z
    · exact z1.trans (k.trans z2)
    · exact z1.trans (k.symm.trans z2)
  have := conn_len _ _ ib c2
  rw [pick_len] at this
  rw [List.length_cons] at hl
  omega
theorem conn_perm {A B : List Nat} (h : ∀ i, i ∈ A ↔ i ∈ B) : Conn n (pick ts A) ↔ Conn n (pick ts B) := ⟨fun k => conn_mono k (pick_mem fun i => (h i).mp), fun k => conn_mono k (pick_mem fun i => (h i).mpr)⟩
/-- a hanging: numbers of ties, all unlike -/
structure Hg (n : Nat) (ts : List Tie) (S : List Nat) : Prop where
  ins : InS ts.length S
  nd : S.Nodup
  len : S.length = n - 1
  cn : Conn n (pick ts S)
theorem Hg.perm {S S' : List Nat} (h : Hg n ts S) (p : S.Perm S') : Hg n ts S' := ⟨fun i hi => h.ins i (p.symm.subset hi), p.nodup_iff.mp h.nd, p.length_eq ▸ h.len, (conn_perm fun i => p.mem_iff).mp h.cn⟩
theorem Hg.out (hb : Inb n ts) (hn : 0 < n) {S : List Nat} (h : Hg n ts S) {g : Nat} (hg : g ∈ S) : ¬ Cn (pick ts (S.erase g)) (x1 ts g) (x2 ts g) := by
  have p := List.perm_cons_erase hg
  have h' := h.perm p
  exact no_loop hb hn h'.ins h'.len h'.cn
/-- both cuts at once -/
theorem cut_both (hb : Inb n ts) (hn : 0 < n) {N A : List Nat} (h : Hg n ts N) {g : Nat} (hg : g ∈ N) (hA : ∀ i, i ∈ A → i ∈ N) {x y : Nat} (c1 : Cn (pick ts A) x y) (c2 : Cn (pick ts (N.erase g)) x y) : Cn (pick ts (A.filter fun i => decide (i ≠ g))) x y := by
  have e : Cn (((x1 ts g), (x2 ts g)) :: pick ts (A.filter fun i => decide (i ≠ g))) x y := c1.mono fun t ht => by
    obtain ⟨i, hi, rfl⟩ := List.mem_map.mp ht
    by_cases z : i = g
    · rw [z]; exact List.mem_cons_self
    · exact List.mem_cons_of_mem _ (List.mem_map.mpr ⟨i, List.mem_filter.mpr ⟨hi, decide_eq_true z⟩, rfl⟩)
  have up : ∀ {p q : Nat}, Cn (pick ts (A.filter fun i => decide (i ≠ g))) p q → Cn (pick ts (N.erase g)) p q := fun k => k.mono (pick_mem fun i hi => by
    obtain ⟨h1, h2⟩ := List.mem_filter.mp hi
    exact (h.nd.mem_erase_iff).mpr ⟨of_decide_eq_true h2, hA i h1⟩)
  rcases e.cons with z | ⟨z1, z2⟩ | ⟨z1, z2⟩
  · exact z
  · exact absurd ((up z1).symm.trans (c2.trans (up z2).symm)) (h.out hb hn hg)
  · exact absurd ((up z2).trans (c2.symm.trans (up z1))) (h.out hb hn hg)
theorem cut_all (hb : Inb n ts) (hn : 0 < n) {N : List Nat} (h : Hg n ts N) {x y : Nat} (hx : x < n) (hy : y < n) : ∀ K : List Nat, (∀ g, g ∈ K → g ∈ N ∧ Cn (pick ts (N.erase g)) x y) → Cn (pick ts (N.filter fun i => decide (i ∉ K))) x y
  | [], _ => by
    have : N.filter (fun i => decide (i ∉ ([] : List Nat))) = N := List.filter_eq_self.mpr fun i _ => by simp
    rw [this]
    exact (h.cn x hx).symm.trans (h.cn y hy)
  | g :: K, k => by
    have ih := cut_all hb hn h hx hy K fun g hg => k g (List.mem_cons_of_mem _ hg)
    have kg := k g List.mem_cons_self
    have q := cut_both hb hn h kg.1 (A := N.filter fun i => decide (i ∉ K)) (fun i hi => (List.mem_filter.mp hi).1) ih kg.2
    refine q.mono (pick_mem fun i hi => ?_)
    obtain ⟨h1, h2⟩ := List.mem_filter.mp hi
    obtain ⟨h3, h4⟩ := List.mem_filter.mp h1
    refine List.mem_filter.mpr ⟨h3, decide_eq_true fun z => ?_⟩
    rcases List.mem_cons.mp z with z | z
    · exact (of_decide_eq_true h2) z
    · exact (of_decide_eq_true h4) z
/-- from a hanging an exchange leads nearer to another one -/
theorem exchange (hb : Inb n ts) (hn : 0 < n) {N G : List Nat} (hN : Hg n ts N) (hG : Hg n ts G) {c : Nat} (hc : c ∈ G) (hcN : c ∉ N) : ∃ g, g ∈ N ∧ g ∉ G ∧ Hg n ts (c :: N.erase g) := by
  have bc := tie_at hb (hG.ins c hc)
  obtain ⟨g, g1, g2, g3⟩ : ∃ g, g ∈ N ∧ g ∉ G ∧ ¬ Cn (pick ts (N.erase g)) (x1 ts c) (x2 ts c) := Classical.byContradiction fun z => by
    have k := cut_all hb hn hN (x := x1 ts c) (y := x2 ts c) bc.1 bc.2 (N.filter fun i => decide (i ∉ G)) fun g hg => by
      obtain ⟨h1, h2⟩ := List.mem_filter.mp hg
      exact ⟨h1, Classical.byContradiction fun w => z ⟨g, h1, of_decide_eq_true h2, w⟩⟩
    refine hG.out hb hn hc (k.mono (pick_mem fun i hi => ?_))
    obtain ⟨h1, h2⟩ := List.mem_filter.mp hi
    have h2' := of_decide_eq_true h2
    have iG : i ∈ G := Classical.byContradiction fun w => h2' (List.mem_filter.mpr ⟨h1, decide_eq_true w⟩)
    exact (hG.nd.mem_erase_iff).mpr ⟨fun e => hcN (e ▸ h1), iG⟩
  refine ⟨g, g1, g2, fun i hi => ?_, List.nodup_cons.mpr ⟨fun z => hcN (List.mem_of_mem_erase z), hN.nd.erase g⟩, ?_, fun a ha => ?_⟩
  · rcases List.mem_cons.mp hi with z | z
    · rw [z]; exact hG.ins c hc
    · exact hN.ins i (List.mem_of_mem_erase z)
  · have e := hN.len
    have l := List.length_erase_of_mem g1
    have p := List.length_pos_of_mem g1
    rw [List.length_cons]
    omega
  · have pm := List.perm_cons_erase g1
    have cn' := (hN.perm pm).cn
    -- the ends of c, by g
    have all : ∀ p, p < n → Cn (pick ts (g :: N.erase g)) 0 p := cn'
    have cc : Cn (pick ts (g :: N.erase g)) (x1 ts c) (x2 ts c) := (all _ bc.1).symm.trans (all _ bc.2)
    rw [pick_cons] at cc
    have up : ∀ {p q : Nat}, Cn (pick ts (N.erase g)) p q → Cn (pick ts (c :: N.erase g)) p q := fun k => k.mono (pick_mem fun i hi => List.mem_cons_of_mem _ hi)
    have ce : Cn (pick ts (c :: N.erase g)) (x1 ts c) (x2 ts c) := .tie List.mem_cons_self
    have ge : Cn (pick ts (c :: N.erase g)) (x1 ts g) (x2 ts g) := by
      rcases cc.cons with z | ⟨z1, z2⟩ | ⟨z1, z2⟩
      · exact absurd z g3
      · exact (up z1).symm.trans (ce.trans (up z2).symm)
      · exact ((up z2).trans (ce.symm.trans (up z1)))
    have k := all a ha
    rw [pick_cons] at k
    rcases k.cons with z | ⟨z1, z2⟩ | ⟨z1, z2⟩
    · exact up z
    · exact (up z1).trans (ge.trans (up z2))
    · exact (up z1).trans (ge.symm.trans (up z2))
/-- what the goal has that now lacks -/
def lacks (G N : List Nat) : List Nat := G.filter fun i => decide (i ∉ N)
theorem lacks_exch {G N : List Nat} {c g : Nat} (hc : c ∈ G) (hcN : c ∉ N) (hg : g ∉ G) (nd : G.Nodup) : (lacks G (c :: N.erase g)).length + 1 = (lacks G N).length := by
  have e : lacks G (c :: N.erase g) = (lacks G N).filter fun i => decide (i ≠ c) := by
    unfold lacks
    rw [List.filter_filter]
    refine List.filter_congr fun i hi => ?_
    have ig : i ≠ g := fun z => hg (z ▸ hi)
    rw [Bool.eq_iff_iff]
    simp only [Bool.and_eq_true, decide_eq_true_eq, List.mem_cons, not_or, ne_eq]
    rw [List.mem_erase_of_ne ig]
  rw [e]
  exact len_without (nd.sublist List.filter_sublist) (List.mem_filter.mpr ⟨hc, decide_eq_true hcN⟩)
end
end TT

namespace TT
/-! the places that are come to -/
def reachL (n : Nat) (ts : List Tie) (s : Nat) : List Nat := (List.range n).filter fun p => decide (mk n ts p = mk n ts s)
theorem reachL_rise {n : Nat} {ts : List Tie} {s : Nat} : (reachL n ts s).Pairwise (· < ·) := List.pairwise_lt_range.sublist List.filter_sublist
theorem mem_reachL {n : Nat} {ts : List Tie} {s p : Nat} (hb : Inb n ts) (hs : s < n) : p ∈ reachL n ts s ↔ p < n ∧ Cn ts s p := by
  unfold reachL
  rw [List.mem_filter, List.mem_range, decide_eq_true_iff]
  exact ⟨fun ⟨h1, h2⟩ => ⟨h1, ((mk_iff hb h1 hs).mp h2).symm⟩, fun ⟨h1, h2⟩ => ⟨h1, (mk_iff hb h1 hs).mpr h2.symm⟩⟩
theorem reachL_head {n : Nat} {ts : List Tie} {p : Nat} (hb : Inb n ts) (hp : p < n) : (reachL n ts p)[0]? = some (mk n ts p) := by
  have m : mk n ts p ∈ reachL n ts p := (mem_reachL hb hp).mpr ⟨mk_lt hb hp, (marks_ok hb).own p hp⟩
  have r := reachL_rise (n := n) (ts := ts) (s := p)
  have low : ∀ q, q ∈ reachL n ts p → mk n ts p ≤ q := fun q hq => by
    obtain ⟨q1, q2⟩ := (mem_reachL hb hp).mp hq
    rw [(mk_iff hb hp q1).mpr q2]
    exact mk_le hb q1
  generalize reachL n ts p = l at *
  cases l with
  | nil => cases m
  | cons h l =>
    have h1 := low h List.mem_cons_self
    rcases List.mem_cons.mp m with z | z
    · rw [z]; rfl
    · have := (List.pairwise_cons.mp r).1 _ z
      omega
theorem reachL_full {n : Nat} {ts : List Tie} (hb : Inb n ts) (hn : 0 < n) : (reachL n ts 0).length = n ↔ Conn n ts := by
  have le : (reachL n ts 0).length ≤ n := by
    have := List.length_filter_le (fun p => decide (mk n ts p = mk n ts 0)) (List.range n)
    rw [List.length_range] at this
    exact this
  constructor
  · intro e a ha
    have f : (List.range n).filter (fun p => decide (mk n ts p = mk n ts 0)) = List.range n := List.filter_sublist.eq_of_length (by rw [List.length_range]; exact e)
    have := List.mem_range.mpr ha
    rw [← f] at this
    exact ((mem_reachL hb hn).mp this).2
  · intro c
    have f : reachL n ts 0 = List.range n := List.filter_eq_self.mpr fun p hp => decide_eq_true ((mk_iff hb (List.mem_range.mp hp) hn).mpr (c p (List.mem_range.mp hp)).symm)
    rw [f, List.length_range]
/-- f: what is found so far, of it the first a gone on from -/
structure Rch (n : Nat) (ts : List Tie) (s : Nat) (f : List Nat) (a : Nat) : Prop where
  nd : f.Nodup
  lt : ∀ p, p ∈ f → p < n
  cn : ∀ p, p ∈ f → Cn ts s p
  st : s ∈ f
  le_a : a ≤ f.length
  nb : ∀ i, i < a → ∀ t, t ∈ ts → (t.1 = f.getD i 0 → t.2 ∈ f) ∧ (t.2 = f.getD i 0 → t.1 ∈ f)
theorem nodup_sub_le {α : Type} [BEq α] [LawfulBEq α] : ∀ {f l : List α}, f.Nodup → (∀ p, p ∈ f → p ∈ l) → f.length ≤ l.length
  | [], _, _, _ => Nat.zero_le _
  | a :: f, l, nd, h => by
    have nd' := List.nodup_cons.mp nd
    have ha := h a List.mem_cons_self
    have ih := nodup_sub_le (l := l.erase a) nd'.2 fun p hp => by
      have ne : p ≠ a := fun e => nd'.1 (e ▸ hp)
      exact (List.mem_erase_of_ne ne).mpr (h p (List.mem_cons_of_mem _ hp))
    rw [List.length_erase_of_mem ha] at ih
    have := List.length_pos_of_mem ha
    rw [List.length_cons]
    omega
theorem nodup_le {n : Nat} {f : List Nat} (nd : f.Nodup) (lt : ∀ p, p ∈ f → p < n) : f.length ≤ n := by
  have := nodup_sub_le (l := List.range n) nd fun p hp => List.mem_range.mpr (lt p hp)
  rw [List.length_range] at this
  exact this
section
variable {n : Nat} {ts : List Tie} {s a u k : Nat} {f g : List Nat} {x : Tie}
theorem Rch.le (R : Rch n ts s f a) : f.length ≤ n := nodup_le R.nd R.lt
theorem Rch.start (h : s < n) : Rch n ts s [s] 0 := ⟨by simp, fun p hp => by rw [List.mem_singleton.mp hp]; exact h, fun p hp => by rw [List.mem_singleton.mp hp]; exact .refl s, List.mem_singleton.mpr rfl, Nat.zero_le _, fun i h => absurd h (Nat.not_lt_zero i)⟩
theorem Rch.done (R : Rch n ts s f a) (h : f.length ≤ a) (hb : Inb n ts) (hs : s < n) : (reachL n ts s).Perm f := by
  have all : ∀ p, Cn ts s p → p ∈ f := fun p c => by
    induction c with
    | refl => exact R.st
    | @step b c _ e ih =>
      obtain ⟨i, hi, e2⟩ := List.getElem_of_mem ih
      have eb : b = f.getD i 0 := by rw [List.getD_eq_getElem?_getD, List.getElem?_eq_getElem hi]; exact e2.symm
      rcases e with e | e
      · exact (R.nb i (by omega) _ e).1 eb
      · exact (R.nb i (by omega) _ e).2 eb
  refine (List.perm_ext_iff_of_nodup (reachL_rise.imp fun h => Nat.ne_of_lt h) R.nd).mpr fun p => ?_
  rw [mem_reachL hb hs]
  exact ⟨fun h => all p h.2, fun h => ⟨R.lt p h, R.cn p h⟩⟩
/-- within the turn at the place u -/
structure RchI (n : Nat) (ts : List Tie) (s : Nat) (f : List Nat) (a u : Nat) (g : List Nat) (k : Nat) : Prop where
  nd : g.Nodup
  lt : ∀ p, p ∈ g → p < n
  cn : ∀ p, p ∈ g → Cn ts s p
  st : s ∈ g
  at_ : a < g.length ∧ g.getD a 0 = u
  nb : ∀ i, i < a → ∀ t, t ∈ ts → (t.1 = g.getD i 0 → t.2 ∈ g) ∧ (t.2 = g.getD i 0 → t.1 ∈ g)
  now : ∀ t, t ∈ ts.take k → (t.1 = u → t.2 ∈ g) ∧ (t.2 = u → t.1 ∈ g)
theorem RchI.le (R : RchI n ts s f a u g k) : g.length ≤ n := nodup_le R.nd R.lt
theorem RchI.start (R : Rch n ts s f a) (h : a < f.length) (hu : u = f.getD a 0) : RchI n ts s f a u f 0 := ⟨R.nd, R.lt, R.cn, R.st, ⟨h, hu.symm⟩, R.nb, fun t ht => by simp at ht⟩
theorem RchI.done (R : RchI n ts s f a u g ts.length) : Rch n ts s g (a + 1) := ⟨R.nd, R.lt, R.cn, R.st, R.at_.1, fun i hi t ht => by
  by_cases c : i = a
  · have := R.now t (by rw [List.take_length]; exact ht)
    rw [c, R.at_.2]
    exact this
  · exact R.nb i (by omega) t ht⟩
structure RchH (n : Nat) (ts : List Tie) (s : Nat) (f : List Nat) (a u : Nat) (g : List Nat) (k : Nat) (x : Tie) : Prop where
  i : RchI n ts s f a u g k
  one : x.1 = u → x.2 ∈ g
theorem RchH.le (R : RchH n ts s f a u g k x) : g.length ≤ n := R.i.le
theorem RchH.at_ (R : RchH n ts s f a u g k x) : a < g.length ∧ g.getD a 0 = u := R.i.at_
theorem RchI.push (R : RchI n ts s f a u g k) {p : Nat} (hp : p < n) (hc : Cn ts s p) (hg : p ∉ g) : RchI n ts s f a u (g ++ [p]) k := by
  have get : ∀ i, i ≤ a → (g ++ [p]).getD i 0 = g.getD i 0 := fun i hi => by
    have := R.at_.1
    rw [List.getD_eq_getElem?_getD, List.getElem?_append_left (by omega), List.getD_eq_getElem?_getD]
  refine ⟨?_, fun q hq => ?_, fun q hq => ?_, List.mem_append_left _ R.st, ⟨by have := R.at_.1; rw [List.length_append]; omega, by rw [get a (Nat.le_refl _)]; exact R.at_.2⟩, fun i hi t ht => ?_, fun t ht => ?_⟩
  · rw [List.nodup_append]
    exact ⟨R.nd, by simp, fun q hq r hr e => hg (by rw [List.mem_singleton.mp hr] at e; exact e ▸ hq)⟩
  · rcases List.mem_append.mp hq with z | z
    · exact R.lt q z
    · rw [List.mem_singleton.mp z]; exact hp
  · rcases List.mem_append.mp hq with z | z
    · exact R.cn q z
    · rw [List.mem_singleton.mp z]; exact hc
  · rw [get i (by omega)]
    have := R.nb i hi t ht
    exact ⟨fun e => List.mem_append_left _ (this.1 e), fun e => List.mem_append_left _ (this.2 e)⟩
  · have := R.now t ht
    exact ⟨fun e => List.mem_append_left _ (this.1 e), fun e => List.mem_append_left _ (this.2 e)⟩
theorem RchI.cu (R : RchI n ts s f a u g k) : Cn ts s u := by
  have h := R.at_
  rw [List.getD_eq_getElem?_getD, List.getElem?_eq_getElem h.1] at h
  have e : g[a] = u := h.2
  rw [← e]
  exact R.cn _ (List.getElem_mem _)
theorem RchI.first (R : RchI n ts s f a u g k) (hb : Inb n ts) (hx : ts[k]? = some x) {g' : List Nat} (h : (x.1 = u ∧ x.2 ∉ g) ∧ g' = g ++ [x.2] ∨ g' = g ∧ (x.1 = u → x.2 ∈ g)) : RchH n ts s f a u g' k x := by
  have xm := List.mem_of_getElem? hx
  rcases h with ⟨h, rfl⟩ | ⟨rfl, h⟩
  · exact ⟨R.push (hb x xm).2 (.step (h.1 ▸ R.cu) (.inl xm)) h.2, fun _ => List.mem_append_right _ List.mem_cons_self⟩
  · exact ⟨R, h⟩
theorem RchH.second (R : RchH n ts s f a u g k x) (hb : Inb n ts) (hx : ts[k]? = some x) {g' : List Nat} (h : (x.2 = u ∧ x.1 ∉ g) ∧ g' = g ++ [x.1] ∨ g' = g ∧ (x.2 = u → x.1 ∈ g)) : RchI n ts s f a u g' (k + 1) := by
  have xm := List.mem_of_getElem? hx
  obtain ⟨I, o1, o2⟩ : ∃ I : RchI n ts s f a u g' k, (x.1 = u → x.2 ∈ g') ∧ (x.2 = u → x.1 ∈ g') := by
    rcases h with ⟨h, rfl⟩ | ⟨rfl, h⟩
    · exact ⟨R.i.push (hb x xm).1 (.step (h.1 ▸ R.i.cu) (.inr xm)) h.2, fun e => List.mem_append_left _ (R.one e), fun _ => List.mem_append_right _ List.mem_cons_self⟩
    · exact ⟨R.i, R.one, h⟩
  refine ⟨I.nd, I.lt, I.cn, I.st, I.at_, I.nb, fun t ht => ?_⟩
  rw [List.take_add_one, hx] at ht
  rcases List.mem_append.mp ht with z | z
  · exact I.now t z
  · rw [List.mem_singleton.mp z]
    exact ⟨o1, o2⟩
end
end TT

namespace TT
/-! all rising lists, size by size -/
theorem subs_bound {α : Type} : ∀ (l : List α) (k : Nat), (subs l k).length ≤ 2 ^ l.length
  | l, 0 => by rw [subs_zero]; exact Nat.one_le_two_pow
  | [], k + 1 => Nat.zero_le _
  | x :: l, k + 1 => by
    show ((subs l k).map (x :: ·) ++ subs l (k + 1)).length ≤ _
    rw [List.length_append, List.length_map, List.length_cons, Nat.pow_succ]
    have := subs_bound l k
    have := subs_bound l (k + 1)
    omega
theorem T_bound (n : Nat) (ts : List Tie) : T n ts ≤ 2 ^ ts.length := Nat.le_trans List.countP_le_length (subs_bound _ _)
def nextOf (a : Nat) (s : List Nat) : Nat := match s.getLast? with
  | none => a
  | some x => x + 1
def extOf (a k : Nat) (s : List Nat) : List (List Nat) := (List.range (a + k - nextOf a s)).map fun j => s ++ [nextOf a s + j]
theorem subs_one {α : Type} : ∀ l : List α, subs l 1 = l.map fun x => [x]
  | [] => rfl
  | x :: l => by
    show (subs l 0).map (x :: ·) ++ subs l 1 = _
    rw [subs_zero, subs_one l]
    rfl
theorem nextOf_cons (a b x : Nat) (s : List Nat) : nextOf a (x :: s) = nextOf (x + 1) s := by
  unfold nextOf
  cases s with
  | nil => rfl
  | cons y s => rw [List.getLast?_cons_cons]; cases h : (y :: s).getLast? with
    | none => simp at h
    | some z => rfl
theorem nextOf_any {a b : Nat} {s : List Nat} (h : s ≠ []) : nextOf a s = nextOf b s := by
  unfold nextOf
  cases e : s.getLast? with
  | none => exact absurd (List.getLast?_eq_none_iff.mp e) h
  | some z => rfl
theorem subs_next : ∀ (t k a : Nat), subs (List.range' a k) (t + 1) = (subs (List.range' a k) t).flatMap (extOf a k)
  | 0, k, a => by
    rw [subs_one, subs_zero]
    show _ = (extOf a k []) ++ []
    rw [List.append_nil]
    unfold extOf
    show _ = (List.range (a + k - a)).map fun j => [] ++ [a + j]
    rw [Nat.add_sub_cancel_left, List.range'_eq_map_range, List.map_map]
    rfl
  | t + 1, 0, a => rfl
  | t + 1, k + 1, a => by
    have ih1 := subs_next t k (a + 1)
    have ih2 := subs_next (t + 1) k (a + 1)
    show (subs (List.range' (a + 1) k) (t + 1)).map (a :: ·) ++ subs (List.range' (a + 1) k) (t + 1 + 1) = ((subs (List.range' (a + 1) k) t).map (a :: ·) ++ subs (List.range' (a + 1) k) (t + 1)).flatMap (extOf a (k + 1))
    rw [List.flatMap_append]
    congr 1
    · rw [ih1, List.map_flatMap, List.flatMap_map]
      congr 1
      funext s
      unfold extOf
      rw [nextOf_cons a 0, List.map_map, show a + (k + 1) = a + 1 + k by omega]
      rfl
    · rw [ih2]
      have : ∀ L : List (List Nat), (∀ s, s ∈ L → s ≠ []) → L.flatMap (extOf (a + 1) k) = L.flatMap (extOf a (k + 1)) := fun L => by
        induction L with
        | nil => exact fun _ => rfl
        | cons s L ih =>
          intro h
          rw [List.flatMap_cons, List.flatMap_cons, ih fun s hs => h s (List.mem_cons_of_mem _ hs)]
          congr 1
          unfold extOf
          rw [nextOf_any (b := a) (h s List.mem_cons_self), show a + (k + 1) = a + 1 + k by omega]
      refine this _ fun s hs e => ?_
      have := subs_len hs
      rw [e] at this
      cases this
theorem subs_next0 (t m : Nat) : subs (List.range m) (t + 1) = (subs (List.range m) t).flatMap (extOf 0 m) := by
  rw [List.range_eq_range']
  exact subs_next t m 0
theorem flatMap_take_len {α β : Type} (f : α → List β) (l : List α) (i : Nat) : ((l.take i).flatMap f).length ≤ (l.flatMap f).length := by
  conv => rhs; rw [← List.take_append_drop i l, List.flatMap_append, List.length_append]
  omega
theorem flatMap_take_succ {α β : Type} (f : α → List β) {l : List α} {i : Nat} {x : α} (h : l[i]? = some x) : (l.take (i + 1)).flatMap f = (l.take i).flatMap f ++ f x := by
  rw [List.take_add_one, h, List.flatMap_append]
  simp
theorem subs_lt {m k : Nat} {s : List Nat} (h : s ∈ subs (List.range m) k) : ∀ i, i ∈ s → i < m := fun i hi => List.mem_range.mp ((subs_sub h).subset hi)
theorem nextOf_last {s : List Nat} {z : Nat} (h : s.getLast? = some z) (a : Nat) : nextOf a s = z + 1 := by unfold nextOf; rw [h]
end TT

namespace TT
section
variable {n : Nat} {ts : List Tie} {t : Nat}
theorem led_sub {sm s : List Nat} (h : sm.Sublist (List.range t)) (hs : s ∈ led n ts sm t) : s.Sublist (List.range (t + 1)) := by
  rw [List.range_succ]
  unfold led at hs
  rcases List.mem_append.mp hs with z | z
  · split at z
    · rw [List.mem_singleton.mp z]
      exact h.append (List.Sublist.refl _)
    · cases z
  · split at z
    · rw [List.mem_singleton.mp z]
      exact h.trans (List.sublist_append_left _ _)
    · cases z
theorem rowsAt_sub : ∀ t s, s ∈ rowsAt n ts t → s.Sublist (List.range t)
  | 0, s, h => by
    unfold rowsAt at h
    split at h
    · rw [List.mem_singleton.mp h]; exact List.nil_sublist _
    · cases h
  | t + 1, s, h => by
    unfold rowsAt at h
    obtain ⟨sm, h1, h2⟩ := List.mem_flatMap.mp h
    exact led_sub (rowsAt_sub t sm h1) h2
theorem mem_marks {F : List Tie} (h : Inb n F) (k : Nat) : k ∈ roots n F ↔ k ∈ marks n F := by
  have hl := (marks_ok h).len
  constructor
  · intro hk
    obtain ⟨h1, h2⟩ := mem_roots.mp hk
    unfold mk at h2
    rw [List.getD_eq_getElem?_getD, List.getElem?_eq_getElem (by rw [hl]; exact h1)] at h2
    have e : (marks n F)[k]'(by rw [hl]; exact h1) = k := h2
    rw [← e]
    exact List.getElem_mem _
  · intro hk
    obtain ⟨i, hi, e⟩ := List.getElem_of_mem hk
    have r := mk_root h (a := i) (by rw [← hl]; exact hi)
    unfold mk at r
    rw [List.getD_eq_getElem?_getD, List.getElem?_eq_getElem hi] at r
    rw [← e]
    exact r
theorem roots_len {F : List Tie} (h : Inb n F) (hn : 0 < n) : decide ((roots n F).length = 1) = connP n F := by
  rw [Bool.eq_iff_iff, decide_eq_true_iff, connP_iff, conn_iff h hn]
  exact Iff.rfl
theorem sub_len {s : List Nat} (h : s.Sublist (List.range t)) : s.length ≤ t := by
  have := h.length_le
  rw [List.length_range] at this
  exact this
theorem sub_lt {s : List Nat} (h : s.Sublist (List.range t)) : InS t s := fun i hi => List.mem_range.mp (h.subset hi)
end
theorem rise_len {m : Nat} {S : List Nat} (h : S.Pairwise (· < ·)) (k : InS m S) : S.length ≤ m := by
  have := (rise_sub m 0 S h fun i hi => ⟨Nat.zero_le _, by have := k i hi; omega⟩).length_le
  rw [List.length_range'] at this
  exact this
/-- rising, place by place -/
def riseI (l : List Int) : Bool := (List.range (l.length - 1)).all fun k => decide (l.getD k 0 < l.getD (k + 1) 0)
theorem riseI_iff (l : List Int) : riseI l = true ↔ l.Pairwise (· < ·) := by
  unfold riseI
  rw [List.all_eq_true]
  induction l with
  | nil => exact ⟨fun _ => .nil, fun _ k hk => absurd (List.mem_range.mp hk) (Nat.not_lt_zero _)⟩
  | cons a l ih =>
    cases l with
    | nil => exact ⟨fun _ => List.pairwise_singleton _ _, fun _ k hk => absurd (List.mem_range.mp hk) (Nat.not_lt_zero _)⟩
    | cons b l =>
      constructor
      · intro h
        have h0 : a < b := by simpa using h 0 (List.mem_range.mpr (by simp))
        have hp := ih.mp fun k hk => by
          have := h (k + 1) (List.mem_range.mpr (by have := List.mem_range.mp hk; simp at this ⊢; omega))
          simpa using this
        refine List.pairwise_cons.mpr ⟨fun c hc => ?_, hp⟩
        rcases List.mem_cons.mp hc with z | z
        · rw [z]; exact h0
        · have := (List.pairwise_cons.mp hp).1 c z
          omega
      · intro h k hk
        have hc := List.pairwise_cons.mp h
        cases k with
        | zero => simpa using hc.1 b List.mem_cons_self
        | succ k =>
          have := ih.mpr hc.2 k (List.mem_range.mpr (by have := List.mem_range.mp hk; simp at this ⊢; omega))
          simpa using this
end TT

/-! hangings out of lists in any order; grown ones; steps -/
namespace TT
section
variable {n : Nat} {ts : List Tie}
def srtN (l : List Nat) : List Nat := l.mergeSort fun a b => decide (a ≤ b)
theorem srtN_perm (l : List Nat) : (srtN l).Perm l := List.mergeSort_perm l _
theorem srtN_le (l : List Nat) : (srtN l).Pairwise (· ≤ ·) := (List.pairwise_mergeSort (le := fun a b => decide (a ≤ b)) (fun a b c h1 h2 => by simp at h1 h2 ⊢; omega) (fun a b => by simp; omega) l).imp fun h => by simpa using h
theorem srtN_lt {l : List Nat} (h : l.Nodup) : (srtN l).Pairwise (· < ·) := ((srtN_le l).and ((srtN_perm l).nodup_iff.mpr h)).imp fun ⟨h1, h2⟩ => Nat.lt_of_le_of_ne h1 h2
theorem hg_of {S : List Nat} (h : S ∈ allH n ts) : Hg n ts S := by
  obtain ⟨s1, s2, s3, s4⟩ := mem_allH.mp h
  exact ⟨s2, s1.imp fun h => Nat.ne_of_lt h, s3, s4⟩
theorem of_hg {S : List Nat} (h : Hg n ts S) : srtN S ∈ allH n ts := by
  have h' := h.perm (srtN_perm S).symm
  exact mem_allH.mpr ⟨srtN_lt h.nd, h'.ins, h'.len, h'.cn⟩
/-- now, without g, with c: sorted -/
def swapS (N : List Nat) (g c : Nat) : List Nat := srtN ((N.filter fun i => decide (i ≠ g)) ++ [c])
theorem erase_filter {N : List Nat} (h : N.Nodup) (g : Nat) : N.erase g = N.filter fun i => decide (i ≠ g) := by
  rw [h.erase_eq_filter g]
  refine List.filter_congr fun i _ => ?_
  rw [Bool.eq_iff_iff]
  simp
theorem swapS_iff {N : List Nat} (h : N.Nodup) {g c : Nat} (hc : c ∉ N) : swapS N g c ∈ allH n ts ↔ Hg n ts (c :: N.erase g) := by
  have p : ((N.filter fun i => decide (i ≠ g)) ++ [c]).Perm (c :: N.erase g) := by
    rw [erase_filter h]
    exact List.perm_append_comm
  constructor
  · intro k
    exact ((hg_of k).perm (srtN_perm _)).perm p
  · intro k
    exact of_hg (k.perm p.symm)
theorem swapS_mem {N : List Nat} {g c i : Nat} : i ∈ swapS N g c ↔ (i ∈ N ∧ i ≠ g) ∨ i = c := by
  unfold swapS
  rw [(srtN_perm _).mem_iff, List.mem_append, List.mem_filter, List.mem_singleton, decide_eq_true_iff]
theorem lacks_congr {G A B : List Nat} (h : ∀ i, i ∈ A ↔ i ∈ B) : lacks G A = lacks G B := by
  unfold lacks
  refine List.filter_congr fun i _ => ?_
  rw [Bool.eq_iff_iff, decide_eq_true_iff, decide_eq_true_iff, h i]
theorem swapS_lacks {G N : List Nat} {c g : Nat} (hN : N.Nodup) (hc : c ∈ G) (hcN : c ∉ N) (hg : g ∉ G) (nd : G.Nodup) : (lacks G (swapS N g c)).length + 1 = (lacks G N).length := by
  rw [lacks_congr (B := c :: N.erase g) fun i => ?_]
  · exact lacks_exch hc hcN hg nd
  · rw [swapS_mem, List.mem_cons, hN.mem_erase_iff]
    constructor
    · rintro (⟨h1, h2⟩ | h)
      · exact .inr ⟨h2, h1⟩
      · exact .inl h
    · rintro (h | ⟨h1, h2⟩)
      · exact .inr h
      · exact .inl ⟨h2, h1⟩
theorem swapS_new {N : List Nat} {c g : Nat} (hN : N.Nodup) (hcN : c ∉ N) : (lacks (swapS N g c) N).length = 1 := by
  have p : (lacks (swapS N g c) N).Perm (lacks ((N.filter fun i => decide (i ≠ g)) ++ [c]) N) := (srtN_perm _).filter _
  rw [p.length_eq]
  unfold lacks
  rw [List.filter_append, List.length_append]
  have e1 : ((N.filter fun i => decide (i ≠ g)).filter fun i => decide (i ∉ N)) = [] := List.filter_eq_nil_iff.mpr fun i hi => by
    have := (List.mem_filter.mp hi).1
    simpa using this
  rw [e1, List.filter_cons_of_pos (by simpa using hcN)]
  rfl
theorem lacks_nil {G N : List Nat} (hG : G ∈ allH n ts) (hN : N ∈ allH n ts) (h : (lacks G N).length = 0) : N = G := by
  have g := hg_of hG
  have m := hg_of hN
  have sub : ∀ i, i ∈ G → i ∈ N := fun i hi => Classical.byContradiction fun z => by
    have : i ∈ lacks G N := List.mem_filter.mpr ⟨hi, decide_eq_true z⟩
    rw [List.eq_nil_of_length_eq_zero h] at this
    cases this
  have pf : (N.filter fun i => decide (i ∈ G)).Perm G := (List.perm_ext_iff_of_nodup (m.nd.sublist List.filter_sublist) g.nd).mpr fun i => by
    rw [List.mem_filter, decide_eq_true_iff]
    exact ⟨fun z => z.2, fun z => ⟨sub i z, z⟩⟩
  have ff : (N.filter fun i => decide (i ∈ G)) = N := List.Sublist.eq_of_length List.filter_sublist (by rw [pf.length_eq, g.len, m.len])
  have p : G.Perm N := (ff ▸ pf).symm
  have q1 := (mem_allH.mp hG).1
  have q2 := (mem_allH.mp hN).1
  exact (p.eq_of_pairwise (fun a b _ _ h1 h2 => absurd h1 (Nat.lt_asymm h2)) q1 q2).symm
/-- steps of one tie, from one hanging to another -/
structure Steps (n : Nat) (ts : List Tie) (A G : List Nat) (L : List (List Nat)) (k : Nat) : Prop where
  len : L.length = k + 1
  fst : L[0]? = some A
  all : ∀ S, S ∈ L → S ∈ allH n ts
  one : ∀ i S R, L[i]? = some S → L[i + 1]? = some R → (lacks R S).length = 1
  gap : ∀ N, L[k]? = some N → (lacks G N).length + k = (lacks G A).length
theorem Steps.start {A G : List Nat} (h : A ∈ allH n ts) : Steps n ts A G [A] 0 := ⟨rfl, rfl, fun S hS => by rw [List.mem_singleton.mp hS]; exact h, fun i S R _ h2 => by
  have := (List.getElem?_eq_some_iff.mp h2).1
  simp at this, fun N hN => by
  have : A = N := Option.some.inj hN
  rw [this]; rfl⟩
theorem Steps.push {A G N N' : List Nat} {L : List (List Nat)} {k : Nat} (h : Steps n ts A G L k) (hN : L[k]? = some N) (h1 : N' ∈ allH n ts) (h2 : (lacks N' N).length = 1) (h3 : (lacks G N').length + 1 = (lacks G N).length) : Steps n ts A G (L ++ [N']) (k + 1) := by
  have l := h.len
  have top : (L ++ [N'])[k + 1]? = some N' := by rw [List.getElem?_append_right (by omega), l, Nat.sub_self]; rfl
  refine ⟨by rw [List.length_append, l]; rfl, ?_, fun S hS => ?_, fun i S R hS hR => ?_, fun M hM => ?_⟩
  · rw [List.getElem?_append_left (by omega)]; exact h.fst
  · rcases List.mem_append.mp hS with z | z
    · exact h.all S z
    · rw [List.mem_singleton.mp z]; exact h1
  · have il := (List.getElem?_eq_some_iff.mp hR).1
    rw [List.length_append, l] at il
    have il' : i + 1 < k + 1 + 1 := il
    rw [List.getElem?_append_left (by omega)] at hS
    by_cases z : i + 1 < L.length
    · rw [List.getElem?_append_left z] at hR
      exact h.one i S R hS hR
    · obtain rfl : i = k := by omega
      rw [top] at hR
      rw [hN] at hS
      rw [← Option.some.inj hR, ← Option.some.inj hS]
      exact h2
  · rw [top] at hM
    rw [← Option.some.inj hM]
    have := h.gap N hN
    omega
theorem Steps.last {A G N : List Nat} {L : List (List Nat)} {k : Nat} (h : Steps n ts A G L k) (hG : G ∈ allH n ts) (hN : L[k]? = some N) (hk : k = (lacks G A).length) : N = G := by
  have := h.gap N hN
  exact lacks_nil hG (h.all N (List.mem_of_getElem? hN)) (by omega)
/-- grown, tie by tie, in some order -/
structure Grown (n : Nat) (ts : List Tie) (q : List Nat) (sm : List Nat) : Prop where
  ins : InS ts.length sm
  nd : sm.Nodup
  fo : Forest n (pick ts sm)
  seen : ∀ t, t ∈ q → Cn (pick ts sm) (ts.getD t (0, 0)).1 (ts.getD t (0, 0)).2
theorem Grown.nil : Grown n ts [] [] := ⟨fun i h => (nomatch h), List.nodup_nil, forest_nil, fun t h => (nomatch h)⟩
theorem Grown.take (hb : Inb n ts) {q sm : List Nat} {t : Nat} (h : Grown n ts q sm) (ht : t < ts.length) (o : opens n ts sm t = true) : Grown n ts (q ++ [t]) (sm ++ [t]) := by
  have o' := opens_iff.mp o
  have b := tie_at hb ht
  have up : ∀ {a b : Nat}, Cn (pick ts sm) a b → Cn (pick ts (sm ++ [t])) a b := fun k => k.mono (pick_mem fun i hi => List.mem_append_left _ hi)
  have new : Cn (pick ts (sm ++ [t])) (ts.getD t (0, 0)).1 (ts.getD t (0, 0)).2 := .tie (by rw [pick_push]; exact List.mem_append_right _ List.mem_cons_self)
  refine ⟨fun i hi => ?_, ?_, (open_forest hb h.ins ht).mpr ⟨h.fo, o'⟩, fun u hu => ?_⟩
  · rcases List.mem_append.mp hi with z | z
    · exact h.ins i z
    · rw [List.mem_singleton.mp z]; exact ht
  · refine List.nodup_append.mpr ⟨h.nd, by simp, fun a ha c hc e => ?_⟩
    rw [List.mem_singleton.mp hc] at e
    rw [e] at ha
    exact o' ((mk_iff (pick_inb hb h.ins) b.1 b.2).mpr (.tie (List.mem_map.mpr ⟨t, ha, rfl⟩)))
  · rcases List.mem_append.mp hu with z | z
    · exact up (h.seen u z)
    · rw [List.mem_singleton.mp z]; exact new
theorem Grown.pass (hb : Inb n ts) {q sm : List Nat} {t : Nat} (h : Grown n ts q sm) (ht : t < ts.length) (o : opens n ts sm t = false) : Grown n ts (q ++ [t]) sm := by
  have b := tie_at hb ht
  refine ⟨h.ins, h.nd, h.fo, fun u hu => ?_⟩
  rcases List.mem_append.mp hu with z | z
  · exact h.seen u z
  · rw [List.mem_singleton.mp z]
    refine (mk_iff (pick_inb hb h.ins) b.1 b.2).mp (Classical.byContradiction fun w => ?_)
    rw [opens_iff.mpr w] at o
    cases o
theorem Grown.done (hb : Inb n ts) (hn : 0 < n) {q sm : List Nat} (h : Grown n ts q sm) (hq : ∀ t, t < ts.length → t ∈ q) (cn : Conn n ts) : srtN sm ∈ allH n ts := by
  have ib := pick_inb hb h.ins
  have all : ∀ t : Tie, t ∈ ts → Cn (pick ts sm) t.1 t.2 := fun t ht => by
    obtain ⟨i, hi, e⟩ := List.getElem_of_mem ht
    have := h.seen i (hq i hi)
    rw [List.getD_eq_getElem?_getD, List.getElem?_eq_getElem hi, e] at this
    exact this
  have up : ∀ {a b : Nat}, Cn ts a b → Cn (pick ts sm) a b := fun k => by
    induction k with
    | refl => exact .refl _
    | step _ z ih =>
      rcases z with z | z
      · exact ih.trans (all _ z)
      · exact ih.trans (all _ z).symm
  have cn' : Conn n (pick ts sm) := fun a ha => up (cn a ha)
  have l := forest_tree ib hn cn' h.fo
  rw [pick_len] at l
  exact of_hg ⟨h.ins, h.nd, l, cn'⟩
end
end TT

/-! values told as data, over a heap, without the lists of a set M -/
namespace DL
open PySem L2
abbrev D := PyData
abbrev As := Addr → Prop
abbrev scrD (ns : List Int) : D := .dict ((.none, .none) :: ns.map fun n => (.none, .int n))
def ScrAt (K : PySem.W.Frag) (M : As) (H : Hp) (a : Addr) (ns : List Int) : Prop :=
  (∃ o, H a = some (.frz o (.lst (ns.map V.int)))) ∨ (¬ M a ∧ H a = some (.lst (ns.map V.int))) ∨
    ∃ (o : Obj) (its : Array Value) (n : Nat), K.lookup a = some o ∧ o.cls = .type "list" ∧ o.dict = none ∧ o.data = .seq its n ∧ its.size ≤ sizeLine ∧ Vals (ns.map V.int) its.toList
mutual
inductive Rp (K : PySem.W.Frag) (M : As) (H : Hp) : V → D → Prop
  | non : Rp K M H .non .none
  | bl (b : Bool) : Rp K M H (.bl b) (.bool b)
  | int (i : Int) : Rp K M H (.int i) (.int i)
  | str (x : Str) : Rp K M H (.str x) (.str x)
  | lst {a : Addr} {xs : List V} {ds : List D} (h1 : ¬ M a) (h2 : H a = some (.lst xs)) (h3 : RpA K M H xs ds) : Rp K M H (.ref a) (.list ds)
  | tup {a : Addr} {xs : List V} {ds : List D} (h2 : H a = some (.tup xs)) (h3 : RpA K M H xs ds) : Rp K M H (.ref a) (.tuple ds)
  | dct {a : Addr} (h1 : ¬ M a) (h2 : H a = some (.dK [])) : Rp K M H (.ref a) (.dict [])
  | scr {a : Addr} {ns : List Int} (h1 : ScrAt K M H a ns) : Rp K M H (.ref a) (.dict ((.none, .none) :: ns.map fun n => (.none, .int n)))
inductive RpA (K : PySem.W.Frag) (M : As) (H : Hp) : List V → List D → Prop
  | nil : RpA K M H [] []
  | cons {v : V} {vs : List V} {d : D} {ds : List D} (h1 : Rp K M H v d) (h2 : RpA K M H vs ds) : RpA K M H (v :: vs) (d :: ds)
end
/-- what M' and H' keep of what M and H know -/
structure Keep (M M' : As) (H H' : Hp) : Prop where
  lst : ∀ a xs, ¬ M a → H a = some (.lst xs) → ¬ M' a ∧ H' a = some (.lst xs)
  tup : ∀ a xs, H a = some (.tup xs) → H' a = some (.tup xs)
  dct : ∀ a, ¬ M a → H a = some (.dK []) → ¬ M' a ∧ H' a = some (.dK [])
  frz : ∀ a o u, H a = some (.frz o u) → H' a = some (.frz o u)
section
variable {K : PySem.W.Frag} {M M' : As} {H H' : Hp}
theorem Keep.scr (k : Keep M M' H H') {a : Addr} {ns : List Int} (h : ScrAt K M H a ns) : ScrAt K M' H' a ns := by
  rcases h with ⟨o, h⟩ | ⟨h1, h2⟩ | h
  · exact .inl ⟨o, k.frz _ _ _ h⟩
  · exact .inr (.inl (k.lst _ _ h1 h2))
  · exact .inr (.inr h)
mutual
theorem Keep.rp (k : Keep M M' H H') : ∀ {v : V} {d : D}, Rp K M H v d → Rp K M' H' v d
  | _, _, .non => .non
  | _, _, .bl b => .bl b
  | _, _, .int i => .int i
  | _, _, .str x => .str x
  | _, _, .lst h1 h2 h3 => .lst (k.lst _ _ h1 h2).1 (k.lst _ _ h1 h2).2 (Keep.rpA k h3)
  | _, _, .tup h2 h3 => .tup (k.tup _ _ h2) (Keep.rpA k h3)
  | _, _, .dct h1 h2 => .dct (k.dct _ h1 h2).1 (k.dct _ h1 h2).2
  | _, _, .scr h1 => .scr (k.scr h1)
theorem Keep.rpA (k : Keep M M' H H') : ∀ {vs : List V} {ds : List D}, RpA K M H vs ds → RpA K M' H' vs ds
  | _, _, .nil => .nil
  | _, _, .cons h1 h2 => .cons (Keep.rp k h1) (Keep.rpA k h2)
end
theorem Keep.same (e : Same H H') (h : ∀ a, M' a → M a ∨ H a = none) : Keep M M' H H' where
  lst := fun a xs n q => ⟨fun m => (h a m).elim n fun z => absurd (z.symm.trans q) (fun y => nomatch y), e _ _ q⟩
  tup := fun a xs q => e _ _ q
  dct := fun a n q => ⟨fun m => (h a m).elim n fun z => absurd (z.symm.trans q) (fun y => nomatch y), e _ _ q⟩
  frz := fun a o u q => e _ _ q
theorem Keep.ext (e : Same H H') : Keep M M H H' := .same e fun _ m => .inl m
theorem Keep.less (h : ∀ a, M' a → M a) : Keep M M' H H := .same (Same.refl H) fun a m => .inl (h a m)
theorem Keep.mut {p : Addr} {xs : List V} {o : HO} (hm : M p) (hp : H p = some (.lst xs)) : Keep M M H (upd H p o) where
  lst := fun a xs n q => ⟨n, by rw [upd_ne (fun z => n (by rw [z]; exact hm))]; exact q⟩
  tup := fun a xs q => by rw [upd_ne (fun z => by rw [z, hp] at q; cases q)]; exact q
  dct := fun a n q => ⟨n, by rw [upd_ne (fun z => n (by rw [z]; exact hm))]; exact q⟩
  frz := fun a o u q => by rw [upd_ne (fun z => by rw [z, hp] at q; cases q)]; exact q
/-- without the lists at L -/
noncomputable def hideL (L : As) (H : Hp) : Hp := fun a => @ite _ (L a) (Classical.propDecidable _) none (H a)
theorem hideL_in {L : As} {a : Addr} (h : L a) : hideL L H a = none := by unfold hideL; rw [if_pos h]
theorem hideL_out {L : As} {a : Addr} (h : ¬ L a) : hideL L H a = H a := by unfold hideL; rw [if_neg h]
theorem hideL_same {L : As} : Same (hideL L H) H := fun a o h => by
  by_cases z : L a
  · rw [hideL_in z] at h; cases h
  · rw [hideL_out z] at h; exact h
theorem Keep.hide {L : As} (hl : ∀ a, L a → M a) (hs : ∀ a, L a → ∃ xs, H a = some (.lst xs)) : Keep M M H (hideL L H) where
  lst := fun a xs n q => ⟨n, by rw [hideL_out (fun z => n (hl a z))]; exact q⟩
  tup := fun a xs q => by rw [hideL_out (fun z => by obtain ⟨_, e⟩ := hs a z; rw [e] at q; cases q)]; exact q
  dct := fun a n q => ⟨n, by rw [hideL_out (fun z => n (hl a z))]; exact q⟩
  frz := fun a o u q => by rw [hideL_out (fun z => by obtain ⟨_, e⟩ := hs a z; rw [e] at q; cases q)]; exact q
theorem Keep.trans {M'' : As} {H'' : Hp} (k : Keep M M' H H') (k' : Keep M' M'' H' H'') : Keep M M'' H H'' where
  lst := fun a xs n q => let ⟨x, y⟩ := k.lst a xs n q; k'.lst a xs x y
  tup := fun a xs q => k'.tup a xs (k.tup a xs q)
  dct := fun a n q => let ⟨x, y⟩ := k.dct a n q; k'.dct a x y
  frz := fun a o u q => k'.frz a o u (k.frz a o u q)
theorem RpA.length : ∀ {vs : List V} {ds : List D}, RpA K M H vs ds → vs.length = ds.length
  | _, _, .nil => rfl
  | _, _, .cons _ h => congrArg (· + 1) (RpA.length h)
theorem RpA.append : ∀ {vs ws : List V} {ds es : List D}, RpA K M H vs ds → RpA K M H ws es → RpA K M H (vs ++ ws) (ds ++ es)
  | _, _, _, _, .nil, h => h
  | _, _, _, _, .cons a t, h => .cons a (RpA.append t h)
theorem RpA.get : ∀ {vs : List V} {ds : List D} {i : Nat} {d : D}, RpA K M H vs ds → ds[i]? = some d → ∃ v, vs[i]? = some v ∧ Rp K M H v d
  | _, _, _, _, .nil, e => by simp at e
  | _, _, 0, _, .cons a _, e => by simp at e; subst e; exact ⟨_, rfl, a⟩
  | _, _, i + 1, _, .cons _ t, e => by
    obtain ⟨v, h1, h2⟩ := RpA.get t (by simpa using e)
    exact ⟨v, by simpa using h1, h2⟩
theorem RpA.getV : ∀ {vs : List V} {ds : List D} {i : Nat} {v : V}, RpA K M H vs ds → vs[i]? = some v → ∃ d, ds[i]? = some d ∧ Rp K M H v d
  | _, _, _, _, .nil, e => by simp at e
  | _, _, 0, _, .cons a _, e => by simp at e; subst e; exact ⟨_, rfl, a⟩
  | _, _, i + 1, _, .cons _ t, e => by
    obtain ⟨v, h1, h2⟩ := RpA.getV t (by simpa using e)
    exact ⟨v, by simpa using h1, h2⟩
theorem RpA.take : ∀ {vs : List V} {ds : List D} (n : Nat), RpA K M H vs ds → RpA K M H (vs.take n) (ds.take n)
  | _, _, 0, _ => .nil
  | _, _, _ + 1, .nil => .nil
  | _, _, n + 1, .cons a t => .cons a (RpA.take n t)
theorem RpA.drop : ∀ {vs : List V} {ds : List D} (n : Nat), RpA K M H vs ds → RpA K M H (vs.drop n) (ds.drop n)
  | _, _, 0, h => h
  | _, _, _ + 1, .nil => .nil
  | _, _, n + 1, .cons _ t => RpA.drop n t
theorem RpA.set {v : V} {d : D} (r : Rp K M H v d) : ∀ {vs : List V} {ds : List D} (i : Nat), RpA K M H vs ds → RpA K M H (vs.set i v) (ds.set i d)
  | _, _, _, .nil => .nil
  | _, _, 0, .cons _ t => .cons r t
  | _, _, i + 1, .cons a t => .cons a (RpA.set r i t)
theorem RpA.ints : ∀ (ns : List Int), RpA K M H (ns.map V.int) (ns.map PyData.int)
  | [] => .nil
  | n :: ns => .cons (.int n) (RpA.ints ns)
theorem RpA.ints_inv : ∀ {vs : List V} {ns : List Int}, RpA K M H vs (ns.map PyData.int) → vs = ns.map V.int
  | _, [], h => by cases h; rfl
  | _, n :: ns, h => by
    cases h with
    | cons a t =>
      cases a
      rw [RpA.ints_inv t]; rfl
theorem RpA.bools_inv : ∀ {vs : List V} {bs : List Bool}, RpA K M H vs (bs.map PyData.bool) → vs = bs.map V.bl
  | _, [], h => by cases h; rfl
  | _, b :: bs, h => by
    cases h with
    | cons a t =>
      cases a
      rw [RpA.bools_inv t]; rfl
end
/-- flat data have one value -/
def flatD : D → Option V
  | .none => some .non
  | .bool b => some (.bl b)
  | .int i => some (.int i)
  | .str x => some (.str x)
  | _ => none
theorem Rp.flat {K : PySem.W.Frag} {M : As} {H : Hp} {v w : V} {d : D} (h : Rp K M H v d) (e : flatD d = some w) : v = w := by
  cases h <;> simp [flatD] at e <;> exact e
theorem Rp.of_flat {K : PySem.W.Frag} {M : As} {H : Hp} {w : V} {d : D} (e : flatD d = some w) : Rp K M H w d := by
  cases d <;> simp [flatD] at e <;> subst e
  · exact .non
  · exact .bl _
  · exact .int _
  · exact .str _
theorem Rp.list_inv {K : PySem.W.Frag} {M : As} {H : Hp} {v : V} {ds : List D} (h : Rp K M H v (.list ds)) : ∃ a vs, v = .ref a ∧ ¬ M a ∧ H a = some (.lst vs) ∧ RpA K M H vs ds := by
  cases h with
  | lst h1 h2 h3 => exact ⟨_, _, rfl, h1, h2, h3⟩
theorem Rp.tup_inv {K : PySem.W.Frag} {M : As} {H : Hp} {v : V} {ds : List D} (h : Rp K M H v (.tuple ds)) : ∃ a vs, v = .ref a ∧ H a = some (.tup vs) ∧ RpA K M H vs ds := by
  cases h with
  | tup h2 h3 => exact ⟨_, _, rfl, h2, h3⟩
theorem Rp.scr_inv {K : PySem.W.Frag} {M : As} {H : Hp} {v : V} {d : D} {ns : List Int} (h : Rp K M H v d) (e : d = scrD ns) : ∃ a, v = .ref a ∧ ScrAt K M H a ns := by
  cases h with
  | @scr a ms h1 =>
    have e1 := PyData.dict.inj e
    have e2 := (List.cons.inj e1).2
    have inj : ∀ xs ys : List Int, xs.map (fun n => ((.none, .int n) : D × D)) = ys.map (fun n => (.none, .int n)) → xs = ys := fun xs => by
      induction xs with
      | nil => intro ys h; cases ys with
        | nil => rfl
        | cons y ys => simp at h
      | cons x xs ih => intro ys h; cases ys with
        | nil => simp at h
        | cons y ys =>
          simp only [List.map_cons, List.cons.injEq] at h
          have h1 : x = y := by simpa using h.1
          rw [h1, ih ys h.2]
    rw [inj _ _ e2] at h1
    exact ⟨a, rfl, h1⟩
  | dct _ _ => simp [scrD] at e
  | _ => cases e
theorem ScrAt.seq {K : PySem.W.Frag} {M : As} {H : Hp} {a : Addr} {ns : List Int} (h : ScrAt K M H a ns) : SqL K H a (ns.map V.int) := by
  rcases h with ⟨o, h⟩ | ⟨_, h⟩ | h
  · exact .inl (.inr ⟨o, h⟩)
  · exact .inl (.inl h)
  · exact .inr h
theorem ScrAt.of {K : PySem.W.Frag} {H : Hp} {a : Addr} {ns : List Int} (h : SqL K H a (ns.map V.int)) : ScrAt K (fun _ => False) H a ns := by
  rcases h with (h | ⟨o, h⟩) | h
  · exact .inr (.inl ⟨fun z => z, h⟩)
  · exact .inl ⟨o, h⟩
  · exact .inr (.inr h)
/-! ### slots -/
inductive Sl where
  | un
  | val (n : Bool) (d : D)
  | own (n : Bool) (ds : List D)
def Sn (n : Bool) (M B : As) : As := match n with
  | true => B
  | false => M
def SlOk (K : PySem.W.Frag) (M B : As) (H : Hp) (o : Option (Option V)) : Sl → Prop
  | .un => True
  | .val n d => ∃ v, o = some (some v) ∧ Rp K (Sn n M B) H v d
  | .own n ds => ∃ p vs, o = some (some (.ref p)) ∧ M p ∧ H p = some (.lst vs) ∧ RpA K (Sn n M B) H vs ds
structure EnvOk (K : PySem.W.Frag) (M B : As) (H : Hp) (σ : St) (env : List Sl) : Prop where
  len : σ.length = env.length
  sl : ∀ (i : Nat) (s : Sl), env[i]? = some s → SlOk K M B H σ[i]? s
structure Wf (M B : As) (H : Hp) : Prop where
  sub : ∀ a, M a → B a
  trk : ∀ a, B a → H a ≠ none
section
variable {K : PySem.W.Frag} {M M' B B' : As} {H H' : Hp} {σ : St} {env : List Sl}
theorem Wf.ext (w : Wf M B H) (e : Same H H') : Wf M B H' := ⟨w.sub, fun a h => by
  cases q : H a with
  | none => exact absurd q (w.trk a h)
  | some o => rw [e _ _ q]; exact fun z => nomatch z⟩
theorem Wf.trkM (w : Wf M B H) : ∀ a, M a → H a ≠ none := fun a h => w.trk a (w.sub a h)
theorem Wf.sn (w : Wf M B H) (n : Bool) : ∀ a, M a → Sn n M B a := fun a h => by
  cases n with
  | true => exact w.sub a h
  | false => exact h
theorem Wf.snB (w : Wf M B H) (n : Bool) : ∀ a, Sn n M B a → B a := fun a h => by
  cases n with
  | true => exact h
  | false => exact w.sub a h
theorem Wf.snT (w : Wf M B H) (n : Bool) : ∀ a, Sn n M B a → H a ≠ none := fun a h => w.trk a (w.snB n a h)
theorem SlOk.keep (e : ∀ p, M p → ∀ xs, H p = some (.lst xs) → M' p ∧ H' p = some (.lst xs)) (k : ∀ n, Keep (Sn n M B) (Sn n M' B') H H') {o : Option (Option V)} : ∀ {s : Sl}, SlOk K M B H o s → SlOk K M' B' H' o s
  | .un, _ => trivial
  | .val n d, ⟨v, h1, h2⟩ => ⟨v, h1, (k n).rp h2⟩
  | .own n ds, ⟨p, vs, h1, h2, h3, h4⟩ => ⟨p, vs, h1, (e p h2 vs h3).1, (e p h2 vs h3).2, (k n).rpA h4⟩
theorem EnvOk.keep (x : EnvOk K M B H σ env) (e : ∀ p, M p → ∀ xs, H p = some (.lst xs) → M' p ∧ H' p = some (.lst xs)) (k : ∀ n, Keep (Sn n M B) (Sn n M' B') H H') : EnvOk K M' B' H' σ env :=
  ⟨x.len, fun i s h => (x.sl i s h).keep e k⟩
theorem EnvOk.ext (x : EnvOk K M B H σ env) (e : Same H H') : EnvOk K M B H' σ env := x.keep (fun p h xs q => ⟨h, e _ _ q⟩) fun n => .ext e
theorem EnvOk.set (x : EnvOk K M B H σ env) {i : Nat} {ov : Option V} {s : Sl} (h : SlOk K M B H (some ov) s) : EnvOk K M B H (σ.set i ov) (env.set i s) := by
  refine ⟨by rw [List.length_set, List.length_set]; exact x.len, fun j t ht => ?_⟩
  by_cases e : i = j
  · subst e
    by_cases hi : i < env.length
    · rw [List.getElem?_set_self hi] at ht
      cases ht
      rw [List.getElem?_set_self (by rw [x.len]; exact hi)]
      exact h
    · rw [List.getElem?_eq_none (by rw [List.length_set]; omega)] at ht
      cases ht
  · rw [List.getElem?_set_ne e] at ht ⊢
    exact x.sl j t ht
theorem EnvOk.forget (x : EnvOk K M B H σ env) {i : Nat} : EnvOk K M B H σ (env.set i .un) := by
  refine ⟨by rw [List.length_set]; exact x.len, fun j t ht => ?_⟩
  by_cases e : i = j
  · subst e
    by_cases hi : i < env.length
    · rw [List.getElem?_set_self hi] at ht
      cases ht
      trivial
    · rw [List.getElem?_eq_none (by rw [List.length_set]; omega)] at ht
      cases ht
  · rw [List.getElem?_set_ne e] at ht
    exact x.sl j t ht
end
end DL

namespace DL
open PySem L2
theorem szl {n : Nat} (h : n ≤ 100000) : n ≤ sizeLine := Nat.le_trans h (by decide)
theorem szl' {n : Nat} (h : n < 100000) : n < sizeLine := Nat.lt_of_lt_of_le h (by decide)
/-! ### what an expression comes to -/
abbrev Po := As → As → Hp → V → Hp → Prop
def Jd (K : PySem.W.Frag) (te : TE) (env : List Sl) (P : Po) : Prop :=
  ∀ (M B : As) (σ : St) (H : Hp) (Q : VK), Wf M B H → EnvOk K M B H σ env → (∀ v H', Same H H' → P M B H v H' → Q v H') → te σ H Q
def pV (v : V) : Po := fun _ _ _ x _ => x = v
def pD (K : PySem.W.Frag) (n : Bool) (d : D) : Po := fun M B _ x H' => Rp K (Sn n M B) H' x d
def pS (K : PySem.W.Frag) (n : Bool) (ds : List D) : Po := fun M B _ x H' => ∃ a vs, x = .ref a ∧ H' a = some (.lst vs) ∧ RpA K (Sn n M B) H' vs ds
def pN (K : PySem.W.Frag) (n : Bool) (ds : List D) : Po := fun M B H x H' => ∃ a vs, x = .ref a ∧ H a = none ∧ H' a = some (.lst vs) ∧ RpA K (fun b => Sn n M B b ∨ b = a) H' vs ds
def pU (K : PySem.W.Frag) (n : Bool) (ds : List D) : Po := fun M B _ x H' => ∃ a vs, x = .ref a ∧ H' a = some (.tup vs) ∧ RpA K (Sn n M B) H' vs ds
/-- some data with p -/
def pP (K : PySem.W.Frag) (n : Bool) (p : D → Prop) : Po := fun M B _ x H' => ∃ d, p d ∧ Rp K (Sn n M B) H' x d
abbrev JV (K : PySem.W.Frag) (te : TE) (env : List Sl) (v : V) : Prop := Jd K te env (pV v)
abbrev JD (K : PySem.W.Frag) (te : TE) (env : List Sl) (n : Bool) (d : D) : Prop := Jd K te env (pD K n d)
abbrev JS (K : PySem.W.Frag) (te : TE) (env : List Sl) (n : Bool) (ds : List D) : Prop := Jd K te env (pS K n ds)
abbrev JN (K : PySem.W.Frag) (te : TE) (env : List Sl) (n : Bool) (ds : List D) : Prop := Jd K te env (pN K n ds)
abbrev JU (K : PySem.W.Frag) (te : TE) (env : List Sl) (n : Bool) (ds : List D) : Prop := Jd K te env (pU K n ds)
def Jt (K : PySem.W.Frag) (tt : TT) (env : List Sl) (b : Bool) : Prop :=
  ∀ (M B : As) (σ : St) (H : Hp) (Q : Bool → Hp → Prop), Wf M B H → EnvOk K M B H σ env → (∀ H', Same H H' → Q b H') → tt σ H Q
section
variable {K : PySem.W.Frag} {env : List Sl} {te ta tb tc : TE} {tt t u : TT} {P P' : Po} {n m : Bool} {d e : D} {ds es : List D} {v x y z : V} {b c : Bool} {i : Nat}
theorem Jd.imp (h : Jd K te env P) (k : ∀ M B H v H', Wf M B H → Same H H' → P M B H v H' → P' M B H v H') : Jd K te env P' :=
  fun M B σ H Q w e q => h M B σ H Q w e fun v H' s p => q v H' s (k M B H v H' w s p)
theorem Jd.toV (h : JD K te env n d) (e : flatD d = some v) : JV K te env v := h.imp fun _ _ _ _ _ _ _ p => Rp.flat p e
theorem Jd.ofV (h : JV K te env v) (e : flatD d = some v) : JD K te env n d := h.imp fun _ _ _ _ _ _ _ p => by
  show Rp _ _ _ _ _
  rw [p]
  exact Rp.of_flat e
theorem Jd.int {j : Int} (h : JV K te env (.int j)) : JD K te env n (.int j) := h.ofV rfl
theorem Jd.bool (h : JV K te env (.bl b)) : JD K te env n (.bool b) := h.ofV rfl
theorem Jd.nS (h : JN K te env n ds) : JS K te env n ds := h.imp fun _ _ _ _ _ _ _ ⟨a, vs, h1, _, h3, h4⟩ => ⟨a, vs, h1, h3, (Keep.less fun _ => .inl).rpA h4⟩
theorem Jd.nD (h : JN K te env n ds) : JD K te env n (.list ds) := h.imp fun M B H v H' w s ⟨a, vs, h1, h2, h3, h4⟩ => by
  show Rp _ _ _ _ _
  rw [h1]
  exact .lst (fun z => w.snT n a z h2) h3 ((Keep.less fun _ => .inl).rpA h4)
theorem Jd.dS (h : JD K te env n (.list ds)) : JS K te env n ds := h.imp fun _ _ _ _ _ _ _ p => let ⟨a, vs, h1, _, h3, h4⟩ := Rp.list_inv p; ⟨a, vs, h1, h3, h4⟩
theorem Jd.dU (h : JD K te env n (.tuple ds)) : JU K te env n ds := h.imp fun _ _ _ _ _ _ _ p => let ⟨a, vs, h1, h3, h4⟩ := Rp.tup_inv p; ⟨a, vs, h1, h3, h4⟩
theorem Jd.uD (h : JU K te env n ds) : JD K te env n (.tuple ds) := h.imp fun _ _ _ _ _ _ _ ⟨a, vs, h1, h3, h4⟩ => by
  show Rp _ _ _ _ _
  rw [h1]
  exact .tup h3 h4
theorem Jd.low (h : JD K te env true d) : JD K te env n d := h.imp fun M B H v H' w s p => by
  cases n with
  | true => exact p
  | false => exact (Keep.less w.sub).rp p
theorem Jd.lowS (h : JS K te env true ds) : JS K te env n ds := h.imp fun M B H v H' w s ⟨a, vs, h1, h2, h3⟩ => by
  cases n with
  | true => exact ⟨a, vs, h1, h2, h3⟩
  | false => exact ⟨a, vs, h1, h2, (Keep.less w.sub).rpA h3⟩
theorem Jd.eqV (h : JV K te env v) (e : v = x) : JV K te env x := e ▸ h
theorem Jd.eqD (h : JD K te env n d) (q : d = e) : JD K te env n e := q ▸ h
theorem Jd.eqS (h : JS K te env n ds) (q : ds = es) : JS K te env n es := q ▸ h
theorem Jd.eqN (h : JN K te env n ds) (q : ds = es) : JN K te env n es := q ▸ h
/-! ### names, constants -/
theorem jd_var (h : env[i]? = some (.val n d)) : JD K (tVar i) env n d := fun M B σ H Q w e q => by
  obtain ⟨v, h1, h2⟩ := e.sl i _ h
  exact ⟨v, h1, q v H (Same.refl H) h2⟩
theorem jv_var (h : env[i]? = some (.val n d)) (f : flatD d = some v) : JV K (tVar i) env v := (jd_var h).toV f
theorem js_var (h : env[i]? = some (.val n (.list ds))) : JS K (tVar i) env n ds := (jd_var h).dS
theorem ju_var (h : env[i]? = some (.val n (.tuple ds))) : JU K (tVar i) env n ds := (jd_var h).dU
theorem js_own (h : env[i]? = some (.own n ds)) : JS K (tVar i) env n ds := fun M B σ H Q w e q => by
  obtain ⟨p, vs, h1, _, h3, h4⟩ := e.sl i _ h
  exact ⟨.ref p, h1, q _ H (Same.refl H) ⟨p, vs, rfl, h3, h4⟩⟩
theorem jv_c : JV K (tC v) env v := fun M B σ H Q w e q => q v H (Same.refl H) rfl
/-! ### operators -/
theorem Jd.op {r : R2} {Pa Pb : Po} (ha : Jd K ta env Pa) (hb : Jd K tb env Pb)
    (hr : ∀ (M B : As) (H : Hp) (x y : V) (H1 H2 : Hp), Wf M B H → Same H H1 → Same H1 H2 → Pa M B H x H1 → Pb M B H1 y H2 → ∀ Q : VK, (∀ v H3, Same H2 H3 → P M B H v H3 → Q v H3) → r x y H2 Q) : Jd K (tOp r ta tb) env P :=
  fun M B σ H Q w e q => ha M B σ H _ w e fun x H1 s1 p1 => hb M B σ H1 _ (w.ext s1) (e.ext s1) fun y H2 s2 p2 => hr M B H x y H1 H2 w s1 s2 p1 p2 Q fun v H3 s3 p3 => q v H3 ((s1.trans s2).trans s3) p3
theorem Jd.un {r : V → Hp → VK → Prop} {Pa : Po} (ha : Jd K ta env Pa)
    (hr : ∀ (M B : As) (H : Hp) (x : V) (H1 : Hp), Wf M B H → Same H H1 → Pa M B H x H1 → ∀ Q : VK, (∀ v H3, Same H1 H3 → P M B H v H3 → Q v H3) → r x H1 Q) : Jd K (tUn r ta) env P :=
  fun M B σ H Q w e q => ha M B σ H _ w e fun x H1 s1 p1 => hr M B H x H1 w s1 p1 Q fun v H3 s3 p3 => q v H3 (s1.trans s3) p3
theorem jv_op {r : R2} (ha : JV K ta env x) (hb : JV K tb env y) (hr : ∀ (H : Hp) (Q : VK), Q z H → r x y H Q) : JV K (tOp r ta tb) env z :=
  Jd.op ha hb fun _ _ _ _ _ _ H2 _ _ _ p1 p2 Q q => by
    have e1 : _ = x := p1
    have e2 : _ = y := p2
    rw [e1, e2]
    exact hr H2 Q (q z H2 (Same.refl H2) rfl)
theorem jv_I0 {g : Int → Int → V} {j k : Int} (ha : JV K ta env (.int j)) (hb : JV K tb env (.int k)) : JV K (tOp (rI0 g) ta tb) env (g j k) := jv_op ha hb fun _ _ q => ⟨j, k, rfl, rfl, q⟩
theorem jv_I {C : Int → Int → Prop} {g : Int → Int → V} {j k : Int} (ha : JV K ta env (.int j)) (hb : JV K tb env (.int k)) (hc : C j k) : JV K (tOp (rI C g) ta tb) env (g j k) := jv_op ha hb fun _ _ q => ⟨j, k, rfl, rfl, hc, q⟩
theorem jv_U {g : Int → V} {j : Int} (ha : JV K ta env (.int j)) : JV K (tUn (rU g) ta) env (g j) := Jd.un ha fun _ _ _ _ H1 _ _ p1 Q q => by
  have e1 : _ = V.int j := p1
  rw [e1]
  exact ⟨j, rfl, q _ H1 (Same.refl H1) rfl⟩
def rOr (r r' : R2) : R2 := fun x y H Q => r x y H Q ∨ r' x y H Q
theorem opr_or {X : Cx} {f : Value → Value → Sem Value} {r r' : R2} (h : OpR X f r) (h' : OpR X f r') : OpR X f (rOr r r') := fun pins s σ H x y v u Q I rx ry q => by
  rcases q with q | q
  · exact h pins s σ H x y v u Q I rx ry q
  · exact h' pins s σ H x y v u Q I rx ry q
theorem jd_orL {r r' : R2} (h : Jd K (tOp r ta tb) env P) (mono : ∀ (a b : TE) (σ : St) (H : Hp) (Q : VK), tOp r a b σ H Q → tOp (rOr r r') a b σ H Q) : Jd K (tOp (rOr r r') ta tb) env P := fun M B σ H Q w e q => mono _ _ _ _ _ (h M B σ H Q w e q)
abbrev rAddD : R2 := rOr (rI0 fun i j => .int (i + j)) rCat
theorem op_addD {X : Cx} : OpR X (binaryOp .Add) rAddD := opr_or op_add op_cat
theorem jv_add {j k : Int} (ha : JV K ta env (.int j)) (hb : JV K tb env (.int k)) : JV K (tOp rAddD ta tb) env (.int (j + k)) := jv_op ha hb fun _ _ q => .inl ⟨j, k, rfl, rfl, q⟩
theorem jv_sub {j k : Int} (ha : JV K ta env (.int j)) (hb : JV K tb env (.int k)) : JV K (tOp (rI0 fun i j => .int (i - j)) ta tb) env (.int (j - k)) := jv_I0 ha hb
theorem jn_new {vs : List V} {M B : As} {H H2 : Hp} {p : Addr} (w : Wf M B H) (s : Same H H2) (hp : H2 p = none) (r : RpA K (Sn n M B) H2 vs ds) : pN K n ds M B H (.ref p) (upd H2 p (.lst vs)) :=
  ⟨p, vs, rfl, s.free hp, upd_same, (Keep.same (fun b o e => by rw [upd_ne (ne_of_none e hp)]; exact e) fun b m => m.imp_right fun z => by rw [z]; exact hp).rpA r⟩
theorem same_upd {H : Hp} {p : Addr} {o : HO} (h : H p = none) : Same H (upd H p o) := fun b x e => by rw [upd_ne (ne_of_none e h)]; exact e
theorem jn_cat (ha : JS K ta env n ds) (hb : JS K tb env n es) (hz : ds.length + es.length ≤ 100000) : JN K (tOp rAddD ta tb) env n (ds ++ es) :=
  Jd.op ha hb fun M B H x y H1 H2 w s1 s2 ⟨a, vs, e1, h1, r1⟩ ⟨b, us, e2, h2, r2⟩ Q q => by
    rw [e1, e2]
    refine .inr ⟨a, b, vs, us, rfl, rfl, s2 _ _ h1, h2, szl (by rw [r1.length, r2.length]; exact hz), fun p hp => q _ _ (same_upd hp) ?_⟩
    exact jn_new w (s1.trans s2) hp (((Keep.ext s2).rpA r1).append r2)
/-- * of great ints, a list times an int -/
def CMulB (i j : Int) : Prop := i.natAbs.log2 + j.natAbs.log2 < 100000000
theorem CMulB.ok {i j : Int} (h : CMulB i j) : IntMulOk i j := by
  have b : ∀ x : Int, Builtin.Int.intBits x ≤ x.natAbs.log2 + 1 := fun x => by
    unfold Builtin.Int.intBits
    split <;> omega
  have h1 := b i
  have h2 := b j
  have h3 : i.natAbs.log2 + j.natAbs.log2 < 100000000 := h
  intro z
  rw [Bool.and_eq_true] at z
  have z2 := z.2
  unfold Builtin.Int.intTooBig at z2
  have z3 := of_decide_eq_true z2
  rw [show bitsLine = 134217728 by decide] at z3
  omega
theorem op_mulB {X : Cx} : OpR X (binaryOp .Mult) (rI CMulB fun i j => .int (i * j)) := opI fun _ _ _ _ _ _ _ hc q => PyProof.Rows.mul_int q hc.ok
theorem cmulWB {i j : Int} (h : CMulW i j) : CMulB i j := Nat.lt_trans (show _ + _ < 1000000 from h) (by decide)
abbrev rMulD : R2 := rOr (rI CMulB fun i j => .int (i * j)) rRep
theorem op_mulD {X : Cx} : OpR X (binaryOp .Mult) rMulD := opr_or op_mulB op_rep
theorem jv_mulW {j k : Int} (ha : JV K ta env (.int j)) (hb : JV K tb env (.int k)) (h : CMulB j k) : JV K (tOp rMulD ta tb) env (.int (j * k)) := jv_op ha hb fun _ _ q => .inl ⟨j, k, rfl, rfl, h, q⟩
theorem RpA.rep {M : As} {H : Hp} {vs : List V} (r : RpA K M H vs ds) : ∀ k : Nat, RpA K M H (List.replicate k vs).flatten (List.replicate k ds).flatten
  | 0 => .nil
  | k + 1 => by
    rw [List.replicate_succ, List.replicate_succ, List.flatten_cons, List.flatten_cons]
    exact r.append (RpA.rep r k)
theorem jn_rep {k : Int} (ha : JS K ta env n ds) (hb : JV K tb env (.int k)) (h0 : 0 ≤ k) (hz : ds.length * k.toNat ≤ 100000) (hk : k ≤ 100000) : JN K (tOp rMulD ta tb) env n (List.replicate k.toNat ds).flatten :=
  Jd.op ha hb fun M B H x y H1 H2 w s1 s2 ⟨a, vs, e1, h1, r1⟩ p2 Q q => by
    have e2 : y = V.int k := p2
    rw [e1, e2]
    refine .inr ⟨a, k, vs, rfl, rfl, s2 _ _ h1, by omega, by omega, szl (by rw [r1.length]; exact hz), fun p hp => q _ _ (same_upd hp) ?_⟩
    exact jn_new w (s1.trans s2) hp (((Keep.ext s2).rpA r1).rep _)
/-- // by any divisor but nought -/
def CDivA (_ j : Int) : Prop := j ≠ 0 ∧ j.natAbs.log2 < 9000
theorem op_fdivA {X : Cx} : OpR X (binaryOp .FloorDiv) (rI CDivA fun i j => .int (i.fdiv j)) := opI fun _ _ _ _ _ _ _ hc q => PyProof.Rows.floordiv_int hc.1 q (.inl (PyProof.noPylong_of_log2 hc.2))
theorem jv_fdiv {j k : Int} (ha : JV K ta env (.int j)) (hb : JV K tb env (.int k)) (h : CDivA j k) : JV K (tOp (rI CDivA fun i j => .int (i.fdiv j)) ta tb) env (.int (j.fdiv k)) := jv_I ha hb h
theorem log2_small {k : Int} (h0 : 0 < k) (h1 : k < 2 ^ 63) : CDivA 0 k := by
  refine ⟨by omega, ?_⟩
  have a : k.natAbs < 2 ^ 63 := by omega
  exact Nat.lt_trans ((Nat.log2_lt (by omega)).mpr a) (by decide)
theorem cdiv_small {j k : Int} (h0 : 0 < k) (h1 : k < 2 ^ 63) : CDivA j k := log2_small h0 h1
theorem jv_div {j k : Int} (ha : JV K ta env (.int j)) (hb : JV K tb env (.int k)) (h0 : 0 < k) (h1 : k < 2 ^ 63) : JV K (tOp (rI CDivA fun i j => .int (i.fdiv j)) ta tb) env (.int (j / k)) :=
  (jv_fdiv ha hb (cdiv_small h0 h1)).eqV (by rw [Int.fdiv_eq_ediv_of_nonneg j (by omega)])
theorem jv_mod {j k : Int} (ha : JV K ta env (.int j)) (hb : JV K tb env (.int k)) (h0 : 0 < k) : JV K (tOp (rI (fun _ j => 0 < j) fun i j => .int (i % j)) ta tb) env (.int (j % k)) := jv_I ha hb h0
theorem jv_pow {j k : Int} (ha : JV K ta env (.int j)) (hb : JV K tb env (.int k)) (h : CPow j k) : JV K (tOp (rI CPow fun i j => .int (i ^ j.toNat)) ta tb) env (.int (j ^ k.toNat)) := jv_I ha hb h
/-! ### comparisons -/
theorem jv_lt {j k : Int} (ha : JV K ta env (.int j)) (hb : JV K tb env (.int k)) : JV K (tOp (rI0 fun i j => .bl (decide (i < j))) ta tb) env (.bl (decide (j < k))) := jv_I0 ha hb
theorem jv_le {j k : Int} (ha : JV K ta env (.int j)) (hb : JV K tb env (.int k)) : JV K (tOp (rI0 fun i j => .bl (decide (i ≤ j))) ta tb) env (.bl (decide (j ≤ k))) := jv_I0 ha hb
theorem jv_gt {j k : Int} (ha : JV K ta env (.int j)) (hb : JV K tb env (.int k)) : JV K (tOp (rI0 fun i j => .bl (decide (j < i))) ta tb) env (.bl (decide (k < j))) := jv_I0 (g := fun i j => .bl (decide (j < i))) ha hb
theorem jv_ge {j k : Int} (ha : JV K ta env (.int j)) (hb : JV K tb env (.int k)) : JV K (tOp (rI0 fun i j => .bl (decide (j ≤ i))) ta tb) env (.bl (decide (k ≤ j))) := jv_I0 (g := fun i j => .bl (decide (j ≤ i))) ha hb
/-! data without a dict -/
mutual
def noDict : D → Bool
  | .list ds => noDicts ds
  | .tuple ds => noDicts ds
  | .dict _ => false
  | _ => true
def noDicts : List D → Bool
  | [] => true
  | d :: ds => noDict d && noDicts ds
end
mutual
theorem Rp.dp {M : As} {H : Hp} : ∀ {v : V} {d : D}, Rp K M H v d → noDict d = true → Dp K H v d
  | _, _, .non, _ => .non
  | _, _, .bl b, _ => .bl b
  | _, _, .int i, _ => .int i
  | _, _, .str x, _ => .str x
  | _, _, .lst h1 h2 h3, h => .lst (SqL.of h2) (RpA.dp h3 (by simpa [noDict] using h))
  | _, _, .tup h2 h3, h => .tup (SqT.of h2) (RpA.dp h3 (by simpa [noDict] using h))
  | _, _, .dct _ _, h => by simp [noDict] at h
  | _, _, .scr _, h => by simp [noDict] at h
theorem RpA.dp {M : As} {H : Hp} : ∀ {vs : List V} {ds : List D}, RpA K M H vs ds → noDicts ds = true → DpAll K H vs ds
  | _, _, .nil, _ => .nil
  | _, _, .cons h1 h2, h => by
    simp only [noDicts, Bool.and_eq_true] at h
    exact .cons (Rp.dp h1 h.1) (RpA.dp h2 h.2)
end
mutual
theorem noDict_lay : ∀ d : D, d.canLay0 = true → noDict d = true
  | .none, _ => rfl
  | .bool _, _ => rfl
  | .int _, _ => rfl
  | .str _, _ => rfl
  | .list ds, h => noDicts_lay ds (by simpa [PyData.canLay0] using h)
  | .tuple ds, h => noDicts_lay ds (by simpa [PyData.canLay0] using h)
  | .dict _, h => by simp [PyData.canLay0] at h
theorem noDicts_lay : ∀ ds : List D, PyData.canLayAll0 ds = true → noDicts ds = true
  | [], _ => rfl
  | d :: ds, h => by
    simp only [PyData.canLayAll0, Bool.and_eq_true] at h
    simp only [noDicts, Bool.and_eq_true]
    exact ⟨noDict_lay d h.1, noDicts_lay ds h.2⟩
end
theorem noDict_shaped {d : D} (h : SeqAt.shaped d = true) : noDict d = true := noDict_lay d (SeqAt.canLay_of_shaped h)
def pE (K : PySem.W.Frag) (d : D) : Po := fun _ _ _ x H' => Dp K H' x d
abbrev JE (K : PySem.W.Frag) (te : TE) (env : List Sl) (d : D) : Prop := Jd K te env (pE K d)
theorem Jd.dE (h : JD K te env n d) (k : noDict d = true := by rfl) : JE K te env d := h.imp fun _ _ _ _ _ _ _ p => Rp.dp p k
theorem Jd.vE (h : JV K te env v) (e : flatD d = some v := by rfl) : JE K te env d := h.imp fun M B H x H' _ _ p => by
  have e' : x = v := p
  subst e'
  have r : Rp K M H' x d := Rp.of_flat e
  cases d <;> simp [flatD] at e <;> subst e
  · exact .non
  · exact .bl _
  · exact .int _
  · exact .str _
theorem Jd.sE (h : JS K te env n ds) (k : noDicts ds = true) : JE K te env (.list ds) := h.imp fun _ _ _ _ _ _ _ ⟨a, vs, h1, h2, h3⟩ => by
  show Dp _ _ _ _
  rw [h1]
  exact .lst (SqL.of h2) (RpA.dp h3 k)
theorem Jd.uE (h : JU K te env n ds) (k : noDicts ds = true) : JE K te env (.tuple ds) := (h.uD).dE (by simpa [noDict] using k)
mutual
theorem Dp.ext {H H' : Hp} (s : Same H H') : ∀ {v : V} {d : D}, Dp K H v d → Dp K H' v d
  | _, _, .non => .non
  | _, _, .bl b => .bl b
  | _, _, .int i => .int i
  | _, _, .str x => .str x
  | _, _, .lst h1 h2 => .lst (s.seq h1) (DpAll.ext s h2)
  | _, _, .tup h1 h2 => .tup (by
      rcases h1 with (h | ⟨o, h⟩) | h
      · exact .inl (.inl (s _ _ h))
      · exact .inl (.inr ⟨o, s _ _ h⟩)
      · exact .inr h) (DpAll.ext s h2)
theorem DpAll.ext {H H' : Hp} (s : Same H H') : ∀ {vs : List V} {ds : List D}, DpAll K H vs ds → DpAll K H' vs ds
  | _, _, .nil => .nil
  | _, _, .cons h1 h2 => .cons (Dp.ext s h1) (DpAll.ext s h2)
end
theorem jv_eq (ha : JE K ta env d) (hb : JE K tb env e) (h1 : SeqAt.shaped d = true) (h2 : SeqAt.shaped e = true) : JV K (tOp (rEqD K) ta tb) env (.bl (PyData.eqv d e)) :=
  Jd.op ha hb fun _ _ _ x y _ H2 _ _ s2 p1 p2 Q q => ⟨d, e, Dp.ext s2 p1, p2, h1, h2, q _ H2 (Same.refl H2) rfl⟩
theorem jv_ne (ha : JE K ta env d) (hb : JE K tb env e) (h1 : SeqAt.shaped d = true) (h2 : SeqAt.shaped e = true) : JV K (tOp (rNeD K) ta tb) env (.bl (!PyData.eqv d e)) :=
  Jd.op ha hb fun _ _ _ x y _ H2 _ _ s2 p1 p2 Q q => ⟨d, e, Dp.ext s2 p1, p2, h1, h2, q _ H2 (Same.refl H2) rfl⟩
theorem eqv_int (i j : Int) : PyData.eqv (.int i) (.int j) = decide (i = j) := by
  simp only [PyData.eqv]
  exact Bool.beq_eq_decide_eq i j
theorem shaped_int (i : Int) : SeqAt.shaped (.int i) = true := by
  simp [SeqAt.shaped, PyData.canLay0, PyData.depth]
theorem jv_eqI {j k : Int} (ha : JV K ta env (.int j)) (hb : JV K tb env (.int k)) : JV K (tOp (rEqD K) ta tb) env (.bl (decide (j = k))) :=
  (jv_eq (ha.vE (d := .int j)) (hb.vE (d := .int k)) (shaped_int j) (shaped_int k)).eqV (by rw [eqv_int])
theorem jv_neI {j k : Int} (ha : JV K ta env (.int j)) (hb : JV K tb env (.int k)) : JV K (tOp (rNeD K) ta tb) env (.bl (!decide (j = k))) :=
  (jv_ne (ha.vE (d := .int j)) (hb.vE (d := .int k)) (shaped_int j) (shaped_int k)).eqV (by rw [eqv_int])
/-- in a list of data -/
theorem jv_inD (ha : JE K ta env d) (hb : JE K tb env (.list es)) (h1 : SeqAt.shaped d = true) (h2 : SeqAt.shaped (.list es) = true) : JV K (tOp (rInD K) ta tb) env (.bl (es.any fun z => PyData.eqv z d)) :=
  Jd.op ha hb fun _ _ _ x y _ H2 _ _ s2 p1 p2 Q q => ⟨d, es, Dp.ext s2 p1, p2, h1, h2, q _ H2 (Same.refl H2) rfl⟩
theorem jv_ninD (ha : JE K ta env d) (hb : JE K tb env (.list es)) (h1 : SeqAt.shaped d = true) (h2 : SeqAt.shaped (.list es) = true) : JV K (tOp (rNotInD K) ta tb) env (.bl (!es.any fun z => PyData.eqv z d)) :=
  Jd.op ha hb fun _ _ _ x y _ H2 _ _ s2 p1 p2 Q q => ⟨d, es, Dp.ext s2 p1, p2, h1, h2, q _ H2 (Same.refl H2) rfl⟩
/-! ### tests -/
theorem jt_test (h : JV K te env (.bl b)) : Jt K (tTest te) env b := fun M B σ H Q w e q => h M B σ H _ w e fun v H' s p => ⟨b, p, q H' s⟩
theorem jt_B (h : JV K te env (.bl b)) : Jt K (tB te) env b := fun M B σ H Q w e q => h M B σ H _ w e fun v H' s p => ⟨b, p, q H' s⟩
theorem Jt.to {b' : Bool} (h : Jt K t env b) (q : b = b') : Jt K t env b' := q ▸ h
theorem jt_not (h : Jt K t env b) : Jt K (tNot t) env (!b) := fun M B σ H Q w e q => h M B σ H _ w e fun H' s => q H' s
theorem jt_and (h : Jt K t env b) (k : b = true → Jt K u env c) : Jt K (tAnd t u) env (b && c) := fun M B σ H Q w e q => h M B σ H _ w e fun H1 s1 => by
  cases b with
  | true => exact iteT (k rfl M B σ H1 Q (w.ext s1) (e.ext s1) fun H2 s2 => q H2 (s1.trans s2))
  | false => exact iteF (q H1 s1)
theorem jt_or (h : Jt K t env b) (k : b = false → Jt K u env c) : Jt K (tOr t u) env (b || c) := fun M B σ H Q w e q => h M B σ H _ w e fun H1 s1 => by
  cases b with
  | true => exact iteT (q H1 s1)
  | false => exact iteF (k rfl M B σ H1 Q (w.ext s1) (e.ext s1) fun H2 s2 => q H2 (s1.trans s2))
theorem jv_and (ha : JV K ta env (.bl b)) (hb : b = true → JV K tb env (.bl c)) : JV K (tAndV ta tb) env (.bl (b && c)) := fun M B σ H Q w e q => ha M B σ H _ w e fun v H1 s1 p1 => ⟨b, p1, by
  cases b with
  | true => exact iteT (hb rfl M B σ H1 Q (w.ext s1) (e.ext s1) fun v H2 s2 p2 => q v H2 (s1.trans s2) p2)
  | false => exact iteF (q _ H1 s1 rfl)⟩
theorem jv_or (ha : JV K ta env (.bl b)) (hb : b = false → JV K tb env (.bl c)) : JV K (tOrV ta tb) env (.bl (b || c)) := fun M B σ H Q w e q => ha M B σ H _ w e fun v H1 s1 p1 => ⟨b, p1, by
  cases b with
  | true => exact iteT (q _ H1 s1 rfl)
  | false => exact iteF (hb rfl M B σ H1 Q (w.ext s1) (e.ext s1) fun v H2 s2 p2 => q v H2 (s1.trans s2) p2)⟩
theorem jv_not (ha : JV K ta env (.bl b)) : JV K (tNotV ta) env (.bl (!b)) := fun M B σ H Q w e q => ha M B σ H _ w e fun v H1 s1 p1 => ⟨b, p1, q _ H1 s1 rfl⟩
theorem Jd.mono0 (h : Jd K te env P) (pm : ∀ M B H H1 v H2, Same H H1 → P M B H1 v H2 → P M B H v H2) {M B : As} {σ : St} {H H1 : Hp} {Q : VK} (w : Wf M B H) (e : EnvOk K M B H σ env) (s : Same H H1) (q : ∀ v H', Same H H' → P M B H v H' → Q v H') : te σ H1 Q :=
  h M B σ H1 Q (w.ext s) (e.ext s) fun v H2 s2 p => q v H2 (s.trans s2) (pm M B H H1 v H2 s p)
theorem jd_if (h : Jt K t env b) (ha : b = true → Jd K ta env P) (hb : b = false → Jd K tb env P) (pm : ∀ M B H H1 v H2, Same H H1 → P M B H1 v H2 → P M B H v H2) : Jd K (tIf t ta tb) env P := fun M B σ H Q w e q => h M B σ H _ w e fun H1 s1 => by
  cases b with
  | true => exact iteT ((ha rfl).mono0 pm w e s1 q)
  | false => exact iteF ((hb rfl).mono0 pm w e s1 q)
theorem jv_if {p q : Int} (h : Jt K t env b) (ha : b = true → JV K ta env x) (hb : b = false → JV K tb env y) : JV K (tIf t ta tb) env (if b = true then x else y) :=
  jd_if h (fun e => (ha e).eqV (by rw [e]; rfl)) (fun e => (hb e).eqV (by rw [e]; rfl)) fun _ _ _ _ _ _ _ p => p
theorem jv_chain {j k l : Int} (ha : JV K ta env (.int j)) (hb : JV K tb env (.int k)) (hc : JV K tc env (.int l)) :
    JV K (tChain (rI0 fun i j => .bl (decide (i ≤ j))) (rI0 fun i j => .bl (decide (i < j))) ta tb tc) env (.bl (decide (j ≤ k) && decide (k < l))) := fun M B σ H Q w e q =>
  ha M B σ H _ w e fun x H1 s1 p1 => hb M B σ H1 _ (w.ext s1) (e.ext s1) fun y H2 s2 p2 => ⟨j, k, p1, p2, decide (j ≤ k), rfl, by
    cases hd : decide (j ≤ k) with
    | true => exact iteT (hc M B σ H2 _ (w.ext (s1.trans s2)) (e.ext (s1.trans s2)) fun z H3 s3 p3 => ⟨k, l, p2, p3, q _ H3 ((s1.trans s2).trans s3) (by rw [hd]; rfl)⟩)
    | false => exact iteF (q _ H2 (s1.trans s2) (by rw [hd]; rfl))⟩
/-! ### isinstance -/
def tyN : D → String
  | .none => "NoneType"
  | .bool _ => "bool"
  | .int _ => "int"
  | .str _ => "str"
  | .list _ => "list"
  | .tuple _ => "tuple"
  | .dict _ => "dict"
def isScr : D → Bool
  | .dict (_ :: _) => true
  | _ => false
theorem Rp.ty {M : As} {H : Hp} {v : V} {d : D} (h : Rp K M H v d) (hs : isScr d = false) : TyX K H v (.type (tyN d)) := by
  cases h with
  | non => exact .base .non
  | bl b => exact .base (.bl b)
  | int i => exact .base (.int i)
  | str x => exact .base (.str x)
  | lst h1 h2 h3 => exact .base (.lst h2)
  | tup h2 h3 => exact .base (.tup h2)
  | dct h1 h2 => exact .base (.dK h2)
  | scr h1 => simp [isScr] at hs
theorem jv_isi {T : String} (ha : JD K ta env n d) (hk : kitB (tyN d) T = some b) (hs : isScr d = false := by rfl) : JV K (tCB (rIsi K) (tCons ta (tCons (tC (.ty T)) tNil))) env (.bl b) := fun M B σ H Q w e q =>
  ha M B σ H _ w e fun x H1 s1 p1 => ⟨x, .ty T, .type (tyN d), .type T, b, rfl, .ty T, Rp.ty p1 hs, kit_ty hk, q _ H1 s1 rfl⟩
end
end DL

namespace DL
open PySem L2
section
variable {K : PySem.W.Frag} {env : List Sl} {te ta tb tc : TE} {tt t u : TT} {P P' : Po} {n m : Bool} {d e : D} {ds es : List D} {v x y z : V} {b c : Bool} {i : Nat} {α : Type}
/-! ### one builtin of one value -/
theorem jd_cb1 {r : List V → Hp → VK → Prop} {Pa : Po} (ha : Jd K ta env Pa) (hr : ∀ (M B : As) (H : Hp) (x : V) (H1 : Hp), Wf M B H → Same H H1 → Pa M B H x H1 → ∀ Q : VK, (∀ v H3, Same H1 H3 → P M B H v H3 → Q v H3) → r [x] H1 Q) : Jd K (tCB r (tCons ta tNil)) env P :=
  fun M B σ H Q w e q => ha M B σ H _ w e fun x H1 s1 p1 => hr M B H x H1 w s1 p1 Q fun v H3 s3 p3 => q v H3 (s1.trans s3) p3
theorem jd_cb2 {r : List V → Hp → VK → Prop} {Pa Pb : Po} (ha : Jd K ta env Pa) (hb : Jd K tb env Pb)
    (hr : ∀ (M B : As) (H : Hp) (x y : V) (H1 H2 : Hp), Wf M B H → Same H H1 → Same H1 H2 → Pa M B H x H1 → Pb M B H1 y H2 → ∀ Q : VK, (∀ v H3, Same H2 H3 → P M B H v H3 → Q v H3) → r [x, y] H2 Q) : Jd K (tCB r (tCons ta (tCons tb tNil))) env P :=
  fun M B σ H Q w e q => ha M B σ H _ w e fun x H1 s1 p1 => hb M B σ H1 _ (w.ext s1) (e.ext s1) fun y H2 s2 p2 => hr M B H x y H1 H2 w s1 s2 p1 p2 Q fun v H3 s3 p3 => q v H3 ((s1.trans s2).trans s3) p3
abbrev rLenQ (K : PySem.W.Frag) : List V → Hp → VK → Prop := fun xs H Q => ∃ p ys, xs = [.ref p] ∧ (SqL K H p ys ∨ SqT K H p ys) ∧ Q (.int ys.length) H
theorem jv_len (ha : JS K ta env n ds) : JV K (tCB (rLenQ K) (tCons ta tNil)) env (.int (ds.length : Int)) := jd_cb1 ha fun _ _ _ _ H1 _ _ ⟨a, vs, h1, h2, h3⟩ Q q => by
  rw [h1]
  exact ⟨a, vs, rfl, .inl (SqL.of h2), q _ H1 (Same.refl H1) (by rw [h3.length]; rfl)⟩
theorem jv_lenU (ha : JU K ta env n ds) : JV K (tCB (rLenQ K) (tCons ta tNil)) env (.int (ds.length : Int)) := jd_cb1 ha fun _ _ _ _ H1 _ _ ⟨a, vs, h1, h2, h3⟩ Q q => by
  rw [h1]
  exact ⟨a, vs, rfl, .inr (SqT.of h2), q _ H1 (Same.refl H1) (by rw [h3.length]; rfl)⟩
abbrev rListQ (K : PySem.W.Frag) : List V → Hp → VK → Prop := fun xs H Q => ∃ p ys, xs = [.ref p] ∧ (SqL K H p ys ∨ SqT K H p ys) ∧ ∀ l, H l = none → Q (.ref l) (upd H l (.lst ys))
theorem jn_list (ha : JS K ta env n ds) : JN K (tCB (rListQ K) (tCons ta tNil)) env n ds := jd_cb1 ha fun _ _ _ _ H1 w s ⟨a, vs, h1, h2, h3⟩ Q q => by
  rw [h1]
  exact ⟨a, vs, rfl, .inl (SqL.of h2), fun p hp => q _ _ (same_upd hp) (jn_new w s hp h3)⟩
theorem jn_listU (ha : JU K ta env n ds) : JN K (tCB (rListQ K) (tCons ta tNil)) env n ds := jd_cb1 ha fun _ _ _ _ H1 w s ⟨a, vs, h1, h2, h3⟩ Q q => by
  rw [h1]
  exact ⟨a, vs, rfl, .inr (SqT.of h2), fun p hp => q _ _ (same_upd hp) (jn_new w s hp h3)⟩
abbrev rTupQ (K : PySem.W.Frag) : List V → Hp → VK → Prop := fun xs H Q => ∃ p ys, xs = [.ref p] ∧ ((SqL K H p ys ∧ ∀ l, H l = none → Q (.ref l) (upd H l (.tup ys))) ∨ (SqT K H p ys ∧ Q (.ref p) H))
theorem ju_tuple (ha : JS K ta env n ds) : JU K (tCB (rTupQ K) (tCons ta tNil)) env n ds := jd_cb1 ha fun _ _ _ _ H1 w s ⟨a, vs, h1, h2, h3⟩ Q q => by
  rw [h1]
  exact ⟨a, vs, rfl, .inl ⟨SqL.of h2, fun p hp => q _ _ (same_upd hp) ⟨p, vs, rfl, upd_same, (Keep.ext (same_upd hp)).rpA h3⟩⟩⟩
abbrev rMin2 : List V → Hp → VK → Prop := fun xs H Q => ∃ i j, xs = [.int i, .int j] ∧ Q (.int (if j < i then j else i)) H
abbrev rMax2 : List V → Hp → VK → Prop := fun xs H Q => ∃ i j, xs = [.int i, .int j] ∧ Q (.int (if j > i then j else i)) H
theorem jv_min2 {j k : Int} (ha : JV K ta env (.int j)) (hb : JV K tb env (.int k)) : JV K (tCB rMin2 (tCons ta (tCons tb tNil))) env (.int (min j k)) := jd_cb2 ha hb fun _ _ _ x y _ H2 _ _ _ p1 p2 Q q => by
  have e1 : x = V.int j := p1
  have e2 : y = V.int k := p2
  rw [e1, e2]
  refine ⟨j, k, rfl, q _ H2 (Same.refl H2) ?_⟩
  show V.int _ = V.int _
  congr 1
  split <;> omega
theorem jv_max2 {j k : Int} (ha : JV K ta env (.int j)) (hb : JV K tb env (.int k)) : JV K (tCB rMax2 (tCons ta (tCons tb tNil))) env (.int (max j k)) := jd_cb2 ha hb fun _ _ _ x y _ H2 _ _ _ p1 p2 Q q => by
  have e1 : x = V.int j := p1
  have e2 : y = V.int k := p2
  rw [e1, e2]
  refine ⟨j, k, rfl, q _ H2 (Same.refl H2) ?_⟩
  show V.int _ = V.int _
  congr 1
  split <;> omega
abbrev rInt1 : List V → Hp → VK → Prop := fun xs H Q => (∃ i, xs = [.int i] ∧ Q (.int i) H) ∨ ∃ k, xs = [.bl k] ∧ Q (.int (if k then 1 else 0)) H
theorem jv_intB (ha : JV K ta env (.bl b)) : JV K (tCB rInt1 (tCons ta tNil)) env (.int (if b then 1 else 0)) := jd_cb1 ha fun _ _ _ x H1 _ _ p1 Q q => by
  have e1 : x = V.bl b := p1
  rw [e1]
  exact .inr ⟨b, rfl, q _ H1 (Same.refl H1) rfl⟩
theorem jv_all {bs : List Bool} (ha : JS K ta env n (bs.map PyData.bool)) : JV K (tCB (rAll K) (tCons ta tNil)) env (.bl (bs.all id)) := jd_cb1 ha fun _ _ _ _ H1 _ _ ⟨a, vs, h1, h2, h3⟩ Q q => by
  rw [h1]
  refine ⟨a, bs, rfl, ?_, q _ H1 (Same.refl H1) rfl⟩
  rw [← RpA.bools_inv h3]
  exact SqL.of h2
theorem jv_sum {ns : List Int} (ha : JS K ta env n (ns.map PyData.int)) : JV K (tCB (rSum K) (tCons ta tNil)) env (.int ns.sum) := jd_cb1 ha fun _ _ _ _ H1 _ _ ⟨a, vs, h1, h2, h3⟩ Q q => by
  rw [h1]
  refine ⟨a, ns, rfl, ?_, q _ H1 (Same.refl H1) rfl⟩
  rw [← RpA.ints_inv h3]
  exact SqL.of h2
/-- sorted of ints -/
theorem perm_sorted {xs ys : List Int} (h : xs.Perm ys) (h1 : xs.Pairwise (· ≤ ·)) (h2 : ys.Pairwise (· ≤ ·)) : xs = ys := h.eq_of_pairwise (fun a b _ _ p q => Int.le_antisymm p q) h1 h2
theorem jn_sorted {ns ms : List Int} (ha : JS K ta env n (ns.map PyData.int)) (hz : ns.length < 64) (hp : ms.Perm ns) (hs : ms.Pairwise (· ≤ ·)) : JN K (tCB (rSorted K) (tCons ta tNil)) env m (ms.map PyData.int) := jd_cb1 ha fun _ _ _ _ H1 w s ⟨a, vs, h1, h2, h3⟩ Q q => by
  rw [h1]
  refine ⟨a, ns, rfl, ?_, hz, fun ns' p pm st np => q _ _ (same_upd np) ?_⟩
  · rw [← RpA.ints_inv h3]
    exact SqL.of h2
  · rw [perm_sorted (pm.trans hp.symm) st hs]
    exact jn_new w s np (RpA.ints ms)
/-! ### places -/
theorem atI_len {β : Type} {xs : List α} {ys : List β} {k : Int} {x : α} (hl : xs.length = ys.length) (h : atI xs k = some x) : ∃ j : Nat, xs[j]? = some x ∧ atI ys k = ys[j]? := by
  unfold atI at h ⊢
  rw [← hl]
  cases e : ixN xs.length k with
  | none => rw [e] at h; cases h
  | some j => rw [e] at h; exact ⟨j, h, rfl⟩
theorem jd_ixL {k : Int} (ha : JS K ta env n ds) (hb : JV K tb env (.int k)) (h : atI ds k = some d) : JD K (tOp (rIx K) ta tb) env n d :=
  Jd.op ha hb fun _ _ _ x y _ H2 _ _ s2 ⟨a, vs, h1, h2, h3⟩ p2 Q q => by
    have e2 : y = V.int k := p2
    rw [h1, e2]
    obtain ⟨j, hj, hv⟩ := atI_len (ys := vs) h3.length.symm h
    obtain ⟨v, v1, v2⟩ := h3.get hj
    exact .inl ⟨a, vs, k, v, rfl, rfl, SqL.of (s2 _ _ h2), hv.trans v1, q v H2 (Same.refl H2) ((Keep.ext s2).rp v2)⟩
theorem jd_ixU {k : Int} (ha : JU K ta env n ds) (hb : JV K tb env (.int k)) (h : atI ds k = some d) : JD K (tOp (rIx K) ta tb) env n d :=
  Jd.op ha hb fun _ _ _ x y _ H2 _ _ s2 ⟨a, vs, h1, h2, h3⟩ p2 Q q => by
    have e2 : y = V.int k := p2
    rw [h1, e2]
    obtain ⟨j, hj, hv⟩ := atI_len (ys := vs) h3.length.symm h
    obtain ⟨v, v1, v2⟩ := h3.get hj
    exact .inr (.inl ⟨a, vs, k, v, rfl, rfl, SqT.of (s2 _ _ h2), hv.trans v1, q v H2 (Same.refl H2) ((Keep.ext s2).rp v2)⟩)
theorem atI_map {β : Type} (f : α → β) (xs : List α) {k : Int} {j : Nat} (dflt : α) (hk : k = (j : Int)) (hj : j < xs.length) : atI (xs.map f) k = some (f (xs.getD j dflt)) := by
  rw [hk]
  refine atI_nat ?_
  rw [List.getElem?_map, List.getElem?_eq_getElem hj, List.getD_eq_getElem?_getD, List.getElem?_eq_getElem hj]
  rfl
theorem jd_ixE {enc : α → D} {xs : List α} {k : Int} (j : Nat) (dflt : α) (ha : JS K ta env n (xs.map enc)) (hb : JV K tb env (.int k)) (hk : k = (j : Int)) (hj : j < xs.length) : JD K (tOp (rIx K) ta tb) env n (enc (xs.getD j dflt)) :=
  jd_ixL ha hb (atI_map enc xs dflt hk hj)
/-! ### lists and tuples as they are written -/
def JAs (K : PySem.W.Frag) (ta : TA) (env : List Sl) (n : Bool) (ds : List D) : Prop :=
  ∀ (M B : As) (σ : St) (H : Hp) (Q : List V → Hp → Prop), Wf M B H → EnvOk K M B H σ env → (∀ vs H', Same H H' → RpA K (Sn n M B) H' vs ds → Q vs H') → ta σ H Q
theorem ja_nil : JAs K tNil env n [] := fun M B σ H Q w e q => q [] H (Same.refl H) .nil
theorem ja_cons {ta : TA} (h : JD K te env n d) (k : JAs K ta env n ds) : JAs K (tCons te ta) env n (d :: ds) := fun M B σ H Q w e q =>
  h M B σ H _ w e fun v H1 s1 p1 => k M B σ H1 _ (w.ext s1) (e.ext s1) fun vs H2 s2 p2 => q (v :: vs) H2 (s1.trans s2) (.cons ((Keep.ext s2).rp p1) p2)
theorem jn_lst {ta : TA} (h : JAs K ta env n ds) (hz : ds.length ≤ 100000) : JN K (tLst ta) env n ds := fun M B σ H Q w e q =>
  h M B σ H _ w e fun vs H1 s1 r => ⟨szl (by rw [r.length]; exact hz), fun p hp => q _ _ (s1.trans (same_upd hp)) (jn_new w s1 hp r)⟩
theorem ju_tup {ta : TA} (h : JAs K ta env n ds) (hz : ds.length ≤ 100000) : JU K (tTup ta) env n ds := fun M B σ H Q w e q =>
  h M B σ H _ w e fun vs H1 s1 r => ⟨szl (by rw [r.length]; exact hz), fun p hp => q _ _ (s1.trans (same_upd hp)) ⟨p, vs, rfl, upd_same, (Keep.ext (same_upd hp)).rpA r⟩⟩
/-! ### slices -/
def JO (K : PySem.W.Frag) (to : TO) (env : List Sl) (o : Option Int) : Prop := ∀ (M B : As) (σ : St) (H : Hp) (Q : Option Int → Hp → Prop), Wf M B H → EnvOk K M B H σ env → (∀ H', Same H H' → Q o H') → to σ H Q
theorem jo_none : JO K tNoPart env none := fun M B σ H Q w e q => q H (Same.refl H)
theorem jo_some {k : Int} (h : JV K te env (.int k)) : JO K (tPart te) env (some k) := fun M B σ H Q w e q => h M B σ H _ w e fun v H1 s1 p1 => ⟨k, p1, q H1 s1⟩
def cutG (xs : List α) (lo hi : Option Int) : List α := (xs.drop (HT.sIx xs.length 0 lo)).take (HT.sIx xs.length xs.length hi - HT.sIx xs.length 0 lo)
theorem cutG_map {β : Type} (f : α → β) (xs : List α) (lo hi : Option Int) : cutG (xs.map f) lo hi = (cutG xs lo hi).map f := by
  unfold cutG
  rw [List.length_map, List.map_take, List.map_drop]
theorem cutG_from (xs : List α) (k : Nat) : cutG xs (some (k : Int)) none = xs.drop k := by
  unfold cutG
  rw [HT.sIx_nat, HT.sIx_none]
  by_cases h : k ≤ xs.length
  · rw [Nat.min_eq_left h, List.take_of_length_le (by rw [List.length_drop]; exact Nat.le_refl _)]
  · rw [Nat.min_eq_right (by omega), List.drop_of_length_le (Nat.le_refl _), List.drop_of_length_le (by omega)]
    exact List.take_nil
theorem cutG_to (xs : List α) (k : Nat) : cutG xs none (some (k : Int)) = xs.take k := by
  unfold cutG
  rw [HT.sIx_nat, HT.sIx_none, List.drop_zero, Nat.sub_zero]
  by_cases h : k ≤ xs.length
  · rw [Nat.min_eq_left h]
  · rw [Nat.min_eq_right (by omega), List.take_of_length_le (Nat.le_refl _), List.take_of_length_le (by omega)]
theorem cutG_mid (xs : List α) (j k : Nat) (h : j ≤ xs.length) : cutG xs (some (j : Int)) (some (k : Int)) = (xs.drop j).take (k - j) := by
  unfold cutG
  rw [HT.sIx_nat, HT.sIx_nat, Nat.min_eq_left h]
  by_cases q : k ≤ xs.length
  · rw [Nat.min_eq_left q]
  · rw [Nat.min_eq_right (by omega), List.take_of_length_le (by rw [List.length_drop]; exact Nat.le_refl _), List.take_of_length_le (by rw [List.length_drop]; omega)]
theorem RpA.cut {M : As} {H : Hp} {vs : List V} (r : RpA K M H vs ds) (lo hi : Option Int) : RpA K M H (cutV vs lo hi) (cutG ds lo hi) := by
  unfold cutV cutG
  rw [r.length]
  exact (r.drop _).take _
theorem jn_slice {tl th : TO} {lo hi : Option Int} (ha : JS K te env n ds) (hl : JO K tl env lo) (hh : JO K th env hi) : JN K (tSl (rSlL K) te tl th) env n (cutG ds lo hi) := fun M B σ H Q w e q =>
  ha M B σ H _ w e fun x H1 s1 ⟨a, vs, h1, h2, h3⟩ => hl M B σ H1 _ (w.ext s1) (e.ext s1) fun H2 s2 => hh M B σ H2 _ (w.ext (s1.trans s2)) (e.ext (s1.trans s2)) fun H3 s3 => by
    rw [h1]
    refine ⟨a, vs, rfl, SqL.of (s3 _ _ (s2 _ _ h2)), fun p hp => q _ _ (((s1.trans s2).trans s3).trans (same_upd hp)) ?_⟩
    exact jn_new w ((s1.trans s2).trans s3) hp ((Keep.ext (s2.trans s3)).rpA (h3.cut lo hi))
/-! ### targets -/
def wipeE (env : List Sl) : List Nat → List Sl
  | [] => env
  | v :: vs => (wipeE env vs).set v .un
theorem EnvOk.wipe {M B : As} {H : Hp} {σ : St} (x : EnvOk K M B H σ env) : ∀ vs : List Nat, EnvOk K M B H (L2.wipe σ vs) (wipeE env vs)
  | [] => x
  | v :: vs => by
    unfold L2.wipe wipeE
    exact (EnvOk.wipe x vs).set trivial
/-- what is owned behind a target was owned before -/
def OwnSub (env env' : List Sl) (js : List Nat) : Prop := ∀ (i : Nat) n ds, env'[i]? = some (.own n ds) → env[i]? = some (.own n ds) ∧ i ∉ js
theorem OwnSub.set {env : List Sl} {j : Nat} {n : Bool} {d : D} : OwnSub env (env.set j (.val n d)) [j] := fun i m ds h => by
  by_cases z : j = i
  · subst z
    by_cases hi : j < env.length
    · rw [List.getElem?_set_self hi] at h
      cases h
    · rw [List.getElem?_eq_none (by rw [List.length_set]; omega)] at h
      cases h
  · rw [List.getElem?_set_ne z] at h
    exact ⟨h, fun y => z (List.mem_singleton.mp y).symm⟩
structure TgOk (K : PySem.W.Frag) (g : TG) (d : D) (n : Bool) (env env' : List Sl) (js : List Nat) : Prop where
  run : ∀ (M B : As) (σ : St) (H : Hp) (v : V) (Q : St → Hp → Prop), EnvOk K M B H σ env → Rp K (Sn n M B) H v d → (∀ σ', EnvOk K M B H σ' env' → (∀ j, j ∉ js → σ'[j]? = σ[j]?) → σ'.length = σ.length → Q σ' H) → g v σ H Q
  own : OwnSub env env' js
theorem tg_name {j : Nat} : TgOk K (gName j) d n env (env.set j (.val n d)) [j] := ⟨fun M B σ H v Q e r q =>
  q (σ.set j (some v)) (e.set (ov := some v) (s := .val n d) ⟨v, rfl, r⟩) (fun i hi => List.getElem?_set_ne (fun z => hi (by rw [z]; exact List.mem_singleton.mpr rfl))) List.length_set, OwnSub.set⟩
theorem tg_two {j k : Nat} {d1 d2 : D} : TgOk K (gTup K 2 (gCons (gName j) (gCons (gName k) gNil))) (.tuple [d1, d2]) n env ((env.set j (.val n d1)).set k (.val n d2)) [j, k] := ⟨fun M B σ H v Q e r q => by
  obtain ⟨a, vs, h1, h2, h3⟩ := Rp.tup_inv r
  cases h3 with
  | cons r1 h3 =>
    cases h3 with
    | cons r2 h3 =>
      cases h3
      refine ⟨a, _, h1, SqT.of h2, rfl, _, _, rfl, _, _, rfl, rfl, ?_⟩
      refine q _ ((e.set (ov := some _) (s := .val n d1) ⟨_, rfl, r1⟩).set (ov := some _) (s := .val n d2) ⟨_, rfl, r2⟩) (fun i hi => ?_) (by rw [List.length_set, List.length_set])
      rw [List.getElem?_set_ne (fun z => hi (by rw [z]; simp)), List.getElem?_set_ne (fun z => hi (by rw [z]; simp))], fun i m ds h => by
  obtain ⟨h1, n1⟩ := OwnSub.set i m ds h
  obtain ⟨h2, n2⟩ := OwnSub.set i m ds h1
  refine ⟨h2, fun z => ?_⟩
  rcases List.mem_cons.mp z with z | z
  · exact n2 (by rw [z]; exact List.mem_singleton.mpr rfl)
  · exact n1 z⟩
theorem wipe_get {σ : St} : ∀ {vs : List Nat} {i : Nat}, i ∉ vs → (L2.wipe σ vs)[i]? = σ[i]?
  | [], i, _ => rfl
  | v :: vs, i, h => by
    unfold L2.wipe
    rw [List.getElem?_set_ne (fun z => h (by rw [z]; exact List.mem_cons_self)), wipe_get (fun z => h (List.mem_cons_of_mem _ z))]
theorem wipe_none {σ : St} : ∀ {vs : List Nat} {i : Nat}, i ∈ vs → i < σ.length → (L2.wipe σ vs)[i]? = some none
  | v :: vs, i, h, hi => by
    unfold L2.wipe
    by_cases z : v = i
    · rw [z, List.getElem?_set_self (by rw [L2.wipe_length]; exact hi)]
    · rw [List.getElem?_set_ne z]
      exact wipe_none ((List.mem_cons.mp h).resolve_left fun y => z y.symm) hi
theorem wipe_eq {σ σ' : St} {vs : List Nat} (hl : σ'.length = σ.length) (h : ∀ j, j ∉ vs → σ'[j]? = σ[j]?) : L2.wipe σ' vs = L2.wipe σ vs := by
  refine List.ext_getElem? fun i => ?_
  by_cases z : i ∈ vs
  · by_cases hi : i < σ.length
    · rw [wipe_none z hi, wipe_none z (by rw [hl]; exact hi)]
    · rw [List.getElem?_eq_none (by rw [L2.wipe_length]; omega), List.getElem?_eq_none (by rw [L2.wipe_length]; omega)]
  · rw [wipe_get z, wipe_get z, h i z]
/-! ### comprehensions -/
theorem Wf.add {M B : As} {H : Hp} {p : Addr} (w : Wf M B H) (hp : H p ≠ none) : Wf (fun a => M a ∨ a = p) (fun a => B a ∨ a = p) H :=
  ⟨fun a h => h.imp_left (w.sub a), fun a h => h.elim (w.trk a) fun z => by rw [z]; exact hp⟩
theorem sn_add {M B : As} {p : Addr} (n : Bool) : Sn n (fun a => M a ∨ a = p) (fun a => B a ∨ a = p) = fun a => Sn n M B a ∨ a = p := by cases n <;> rfl
theorem EnvOk.add {M B : As} {H H' : Hp} {σ : St} {p : Addr} (x : EnvOk K M B H σ env) (s : Same H H') (hp : H p = none) : EnvOk K (fun a => M a ∨ a = p) (fun a => B a ∨ a = p) H' σ env :=
  x.keep (fun q h xs e => ⟨.inl h, s _ _ e⟩) fun n => by
    rw [sn_add]
    exact .same s fun a m => m.imp_right fun z => by rw [z]; exact hp
/-- what is taken so far -/
def kept (keep : α → Bool) (f : α → D) (xs : List α) (i : Nat) : List D := ((xs.take i).filter keep).map f
theorem kept_yes {keep : α → Bool} {f : α → D} {xs : List α} {i : Nat} {x : α} (h : xs[i]? = some x) (k : keep x = true) : kept keep f xs (i + 1) = kept keep f xs i ++ [f x] := by
  unfold kept
  rw [List.take_add_one, h]
  simp [k]
theorem kept_no {keep : α → Bool} {f : α → D} {xs : List α} {i : Nat} {x : α} (h : xs[i]? = some x) (k : keep x = false) : kept keep f xs (i + 1) = kept keep f xs i := by
  unfold kept
  rw [List.take_add_one, h]
  simp [k]
theorem kept_len {keep : α → Bool} {f : α → D} {xs : List α} {i : Nat} : (kept keep f xs i).length ≤ xs.length := by
  unfold kept
  rw [List.length_map]
  refine Nat.le_trans (List.length_filter_le _ _) ?_
  rw [List.length_take]
  exact Nat.min_le_right _ _
/-- where a comprehension's turn begins: its list at Dl -/
structure LcAt (K : PySem.W.Frag) (M B : As) (H0 : Hp) (n : Bool) (Dl : Addr) (acc : List D) (H' : Hp) : Prop where
  same : Same H0 H'
  free : H0 Dl = none
  at_ : ∃ vs, H' Dl = some (.lst vs) ∧ RpA K (fun b => Sn n M B b ∨ b = Dl) H' vs acc
theorem LcAt.start {M B : As} {H0 : Hp} {Dl : Addr} (h : H0 Dl = none) : LcAt K M B H0 n Dl [] (upd H0 Dl (.lst [])) := ⟨same_upd h, h, [], upd_same, .nil⟩
theorem LcAt.push {M B : As} {H0 H' H2 : Hp} {Dl : Addr} {acc : List D} (L : LcAt K M B H0 n Dl acc H') (s : Same H' H2) {v : V} (r : Rp K (fun b => Sn n M B b ∨ b = Dl) H2 v d) {vs : List V} (hv : H2 Dl = some (.lst vs)) : LcAt K M B H0 n Dl (acc ++ [d]) (upd H2 Dl (.lst (vs ++ [v]))) := by
  obtain ⟨us, h1, h2⟩ := L.at_
  have e : us = vs := by
    have q := s _ _ h1
    rw [hv] at q
    cases q; rfl
  subst e
  have km : Keep (fun b => Sn n M B b ∨ b = Dl) (fun b => Sn n M B b ∨ b = Dl) H2 (upd H2 Dl (.lst (us ++ [v]))) := .mut (.inr rfl) hv
  refine ⟨fun a o q => ?_, L.free, us ++ [v], upd_same, (km.rpA ((Keep.ext s).rpA h2)).append (.cons (km.rp r) .nil)⟩
  rw [upd_ne (ne_of_none q L.free)]
  exact s _ _ (L.same _ _ q)
theorem LcAt.ext {M B : As} {H0 H' H2 : Hp} {Dl : Addr} {acc : List D} (L : LcAt K M B H0 n Dl acc H') (s : Same H' H2) : LcAt K M B H0 n Dl acc H2 := by
  obtain ⟨us, h1, h2⟩ := L.at_
  exact ⟨L.same.trans s, L.free, us, s _ _ h1, (Keep.ext s).rpA h2⟩
/-- one turn's test and element -/
theorem lc_turn {M B : As} {H0 H' : Hp} {Dl : Addr} {keep : α → Bool} {f : α → D} {xs : List α} {k : Nat} {x : α} {σ2 : St} {env2 : List Sl} {Nx : Hp → Prop} (hx : xs[k]? = some x) (hz : xs.length ≤ 100000)
    (w : Wf M B H0) (L : LcAt K M B H0 n Dl (kept keep f xs k) H') (e2 : EnvOk K (fun a => M a ∨ a = Dl) (fun a => B a ∨ a = Dl) H' σ2 env2)
    (ht : Jt K tt env2 (keep x)) (he : keep x = true → JD K te env2 n (f x)) (hN : ∀ H2, LcAt K M B H0 n Dl (kept keep f xs (k + 1)) H2 → Nx H2) :
    tt σ2 H' fun b H3 => if b = true then te σ2 H3 fun y H4 => ∃ acc, H4 Dl = some (.lst acc) ∧ acc.length < sizeLine ∧ Nx (upd H4 Dl (.lst (acc ++ [y]))) else Nx H3 := by
  have hD : H' Dl ≠ none := by
    obtain ⟨us, h1, _⟩ := L.at_
    rw [h1]; exact fun z => nomatch z
  have w2 : Wf (fun a => M a ∨ a = Dl) (fun a => B a ∨ a = Dl) H' := (w.ext L.same).add hD
  refine ht _ _ σ2 H' _ w2 e2 fun H3 s3 => ?_
  cases kk : keep x with
  | false =>
    refine iteF (hN H3 ?_)
    rw [kept_no hx kk]
    exact L.ext s3
  | true =>
    refine iteT (he kk _ _ σ2 H3 _ (w2.ext s3) (e2.ext s3) fun y H4 s4 r => ?_)
    have r' : Rp K (fun b => Sn n M B b ∨ b = Dl) H4 y (f x) := by
      have q : Rp K (Sn n (fun a => M a ∨ a = Dl) (fun a => B a ∨ a = Dl)) H4 y (f x) := r
      rw [sn_add] at q
      exact q
    obtain ⟨us, h1, h2⟩ := L.at_
    have h4 : H4 Dl = some (.lst us) := s4 _ _ (s3 _ _ h1)
    refine ⟨us, h4, szl' (by rw [h2.length]; have := kept_len (keep := keep) (f := f) (xs := xs) (i := k); have := (List.getElem?_eq_some_iff.mp hx).1; unfold kept; rw [List.length_map]; refine Nat.lt_of_le_of_lt (List.length_filter_le _ _) ?_; rw [List.length_take]; omega), hN _ ?_⟩
    rw [kept_yes hx kk]
    exact L.push (s3.trans s4) r' h4
theorem LcAt.pn {M B : As} {H H0 H' : Hp} {Dl : Addr} {acc : List D} (s : Same H H0) (L : LcAt K M B H0 n Dl acc H') : pN K n acc M B H (.ref Dl) H' := by
  obtain ⟨us, h1, h2⟩ := L.at_
  exact ⟨Dl, us, rfl, s.free L.free, h1, h2⟩
theorem kept_all {keep : α → Bool} {f : α → D} {xs : List α} : kept keep f xs xs.length = (xs.filter keep).map f := by unfold kept; rw [List.take_length]
/-- over a list -/
theorem jn_lcL {tl : TE} {g : TG} {vs : List Nat} {n0 : Bool} {enc : α → D} (xs : List α) (keep : α → Bool) (f : α → D) (hl : JS K tl env n0 (xs.map enc)) (hz : xs.length ≤ 100000)
    (hx : ∀ x, x ∈ xs → ∃ env2, TgOk K g (enc x) n0 (wipeE env vs) env2 vs ∧ Jt K tt env2 (keep x) ∧ (keep x = true → JD K te env2 n (f x))) :
    JN K (tLc (iList K tl) g tt te vs) env n ((xs.filter keep).map f) := fun M B σ H Q w e q =>
  hl M B σ H _ w e fun x H1 s1 ⟨a, us, h1, h2, h3⟩ => by
    refine ⟨a, h1, ⟨us, SqL.of h2⟩, fun Dl hD => ?_⟩
    have hlen : us.length = xs.length := by rw [h3.length, List.length_map]
    refine lc_list (K := K) (a := a) (xs := us) (fun k H' => LcAt K M B H1 n Dl (kept keep f xs k) H') (by unfold kept; rw [List.take_zero]; exact LcAt.start hD) (fun k H' _ L => SqL.of (L.same _ _ h2)) (fun k v H' hk L => ?_) (fun H' L => ?_)
    · have hk' : k < xs.length := by rw [← hlen]; exact (List.getElem?_eq_some_iff.mp hk).1
      obtain ⟨x, hx1⟩ : ∃ x, xs[k]? = some x := ⟨_, List.getElem?_eq_getElem hk'⟩
      obtain ⟨env2, tg, ht, he⟩ := hx x (List.mem_of_getElem? hx1)
      obtain ⟨d, hd, rd⟩ := h3.getV hk
      have ed : d = enc x := by
        rw [List.getElem?_map, hx1] at hd
        exact (Option.some.inj hd).symm
      rw [ed] at rd
      have e' : EnvOk K (fun a => M a ∨ a = Dl) (fun a => B a ∨ a = Dl) H' (L2.wipe σ vs) (wipeE env vs) := ((e.ext s1).add L.same hD).wipe vs
      have rd' : Rp K (Sn n0 (fun a => M a ∨ a = Dl) (fun a => B a ∨ a = Dl)) H' v (enc x) := by
        rw [sn_add]
        exact (Keep.same L.same fun a m => m.imp_right fun z => by rw [z]; exact hD).rp rd
      refine tg.run _ _ (L2.wipe σ vs) H' v _ e' rd' fun σ2 e2 o2 l2 => ⟨?_, lc_turn hx1 hz (w.ext s1) L e2 ht he fun H2 L2 => L2⟩
      rw [wipe_eq l2 o2]
      exact wipe_eq (L2.wipe_length _ _) fun j hj => wipe_get hj
    · rw [hlen, kept_all] at L
      exact q _ H' (s1.trans L.same) (L.pn s1)
theorem jt_yes : Jt K tYes env true := fun M B σ H Q w e q => q H (Same.refl H)
theorem filter_true (xs : List α) : xs.filter (fun _ => true) = xs := List.filter_eq_self.mpr fun _ _ => rfl
theorem jn_mapL {tl : TE} {g : TG} {vs : List Nat} {n0 : Bool} {enc : α → D} (xs : List α) (f : α → D) (hl : JS K tl env n0 (xs.map enc)) (hz : xs.length ≤ 100000)
    (hx : ∀ x, x ∈ xs → ∃ env2, TgOk K g (enc x) n0 (wipeE env vs) env2 vs ∧ JD K te env2 n (f x)) :
    JN K (tLc (iList K tl) g tYes te vs) env n (xs.map f) := by
  have h := jn_lcL (te := te) (tt := tYes) (n := n) xs (fun _ => true) f hl hz fun x hm => let ⟨env2, h1, h2⟩ := hx x hm; ⟨env2, h1, jt_yes, fun _ => h2⟩
  rw [filter_true] at h
  exact h
/-- over a tuple -/
theorem jn_lcU {tl : TE} {g : TG} {vs : List Nat} {n0 : Bool} {enc : α → D} (xs : List α) (keep : α → Bool) (f : α → D) (hl : JU K tl env n0 (xs.map enc)) (hz : xs.length ≤ 100000)
    (hx : ∀ x, x ∈ xs → ∃ env2, TgOk K g (enc x) n0 (wipeE env vs) env2 vs ∧ Jt K tt env2 (keep x) ∧ (keep x = true → JD K te env2 n (f x))) :
    JN K (tLc (iTup K tl) g tt te vs) env n ((xs.filter keep).map f) := fun M B σ H Q w e q =>
  hl M B σ H _ w e fun x H1 s1 ⟨a, us, h1, h2, h3⟩ => by
    refine ⟨a, h1, ⟨us, SqT.of h2⟩, fun Dl hD => ?_⟩
    have hlen : us.length = xs.length := by rw [h3.length, List.length_map]
    refine lc_tup (K := K) (a := a) (xs := us) (fun k H' => LcAt K M B H1 n Dl (kept keep f xs k) H') (by unfold kept; rw [List.take_zero]; exact LcAt.start hD) (fun k H' _ L => SqT.of (L.same _ _ h2)) (fun k v H' hk L => ?_) (fun H' L => ?_)
    · have hk' : k < xs.length := by rw [← hlen]; exact (List.getElem?_eq_some_iff.mp hk).1
      obtain ⟨x, hx1⟩ : ∃ x, xs[k]? = some x := ⟨_, List.getElem?_eq_getElem hk'⟩
      obtain ⟨env2, tg, ht, he⟩ := hx x (List.mem_of_getElem? hx1)
      obtain ⟨d, hd, rd⟩ := h3.getV hk
      have ed : d = enc x := by
        rw [List.getElem?_map, hx1] at hd
        exact (Option.some.inj hd).symm
      rw [ed] at rd
      have e' : EnvOk K (fun a => M a ∨ a = Dl) (fun a => B a ∨ a = Dl) H' (L2.wipe σ vs) (wipeE env vs) := ((e.ext s1).add L.same hD).wipe vs
      have rd' : Rp K (Sn n0 (fun a => M a ∨ a = Dl) (fun a => B a ∨ a = Dl)) H' v (enc x) := by
        rw [sn_add]
        exact (Keep.same L.same fun a m => m.imp_right fun z => by rw [z]; exact hD).rp rd
      refine tg.run _ _ (L2.wipe σ vs) H' v _ e' rd' fun σ2 e2 o2 l2 => ⟨?_, lc_turn hx1 hz (w.ext s1) L e2 ht he fun H2 L2 => L2⟩
      rw [wipe_eq l2 o2]
      exact wipe_eq (L2.wipe_length _ _) fun j hj => wipe_get hj
    · rw [hlen, kept_all] at L
      exact q _ H' (s1.trans L.same) (L.pn s1)
/-- over range(k) -/
def natD (k : Nat) : D := .int (k : Int)
theorem jn_lcR {tn : TE} {g : TG} {vs : List Nat} {k : Int} (keep : Nat → Bool) (f : Nat → D) (hl : JV K tn env (.int k)) (hz : k ≤ 100000)
    (h0 : -100000 ≤ k) (hx : ∀ x, x < k.toNat → ∃ env2, TgOk K g (natD x) true (wipeE env vs) env2 vs ∧ Jt K tt env2 (keep x) ∧ (keep x = true → JD K te env2 n (f x))) :
    JN K (tLc (iRng1 (tCons tn tNil)) g tt te vs) env n (((List.range k.toNat).filter keep).map f) := fun M B σ H Q w e q =>
  hl M B σ H _ w e fun x H1 s1 p1 => by
    have e1 : x = V.int k := p1
    rw [e1]
    refine ⟨k, rfl, by omega, by omega, fun Dl hD => ?_⟩
    refine lc_range (lo := 0) (n := k.toNat) (fun j H' => LcAt K M B H1 n Dl (kept keep f (List.range k.toNat) j) H') (by unfold kept; rw [List.take_zero]; exact LcAt.start hD) (fun j H' hj L => ?_) (fun H' L => ?_)
    · obtain ⟨env2, tg, ht, he⟩ := hx j hj
      have e' : EnvOk K (fun a => M a ∨ a = Dl) (fun a => B a ∨ a = Dl) H' (L2.wipe σ vs) (wipeE env vs) := ((e.ext s1).add L.same hD).wipe vs
      have z : (0 : Int) + (j : Int) = (j : Int) := Int.zero_add _
      rw [z]
      refine tg.run _ _ (L2.wipe σ vs) H' (.int (j : Int)) _ e' (.int _) fun σ2 e2 o2 l2 => ⟨?_, lc_turn (xs := List.range k.toNat) (k := j) (List.getElem?_range hj) (by rw [List.length_range]; omega) (w.ext s1) L e2 ht he fun H2 L2 => L2⟩
      rw [wipe_eq l2 o2]
      exact wipe_eq (L2.wipe_length _ _) fun j hj => wipe_get hj
    · have e3 : kept keep f (List.range k.toNat) k.toNat = ((List.range k.toNat).filter keep).map f := by
        have := kept_all (keep := keep) (f := f) (xs := List.range k.toNat)
        rw [List.length_range] at this
        exact this
      rw [e3] at L
      exact q _ H' (s1.trans L.same) (L.pn s1)
theorem jn_mapR {tn : TE} {g : TG} {vs : List Nat} {k : Int} (f : Nat → D) (hl : JV K tn env (.int k)) (hz : k ≤ 100000)
    (h0 : -100000 ≤ k) (hx : ∀ x, x < k.toNat → ∃ env2, TgOk K g (natD x) true (wipeE env vs) env2 vs ∧ JD K te env2 n (f x)) :
    JN K (tLc (iRng1 (tCons tn tNil)) g tYes te vs) env n ((List.range k.toNat).map f) := by
  have h := jn_lcR (te := te) (tt := tYes) (n := n) (fun _ => true) f hl hz h0 fun x hm => let ⟨env2, h1, h2⟩ := hx x hm; ⟨env2, h1, jt_yes, fun _ => h2⟩
  rw [filter_true] at h
  exact h
/-- list(range(k)) -/
theorem jn_range {tn : TE} {k : Int} (h : JV K tn env (.int k)) (hz : k ≤ 100000) (h0 : 0 ≤ k) : JN K (tLstRg (tRg1 tn)) env n ((List.range k.toNat).map natD) := fun M B σ H Q w e q =>
  h M B σ H _ w e fun x H1 s1 p1 => ⟨k, p1, RgOk.of_le (by omega) (by omega) (by omega) (by omega), fun p hp => q _ _ (s1.trans (same_upd hp)) (by
    refine jn_new w s1 hp ?_
    have e1 : rgV 0 k = ((List.range k.toNat).map fun j : Nat => (j : Int)).map V.int := by
      unfold rgV
      rw [List.map_map, Int.sub_zero]
      refine List.map_congr_left fun j _ => ?_
      show V.int (0 + (j : Int)) = V.int (j : Int)
      rw [Int.zero_add]
    have e2 : (List.range k.toNat).map natD = ((List.range k.toNat).map fun j : Nat => (j : Int)).map PyData.int := by
      rw [List.map_map]
      rfl
    rw [e1, e2]
    exact RpA.ints _)⟩
end
end DL

namespace DL
open PySem L2
/-! ### what a def promises -/
inductive XC where
  | net | tie | self | hang | numb | many
  deriving DecidableEq
inductive Out where
  | val (d : D)
  | new (ds : List D)
  | err (c : XC)
inductive RpF (K : PySem.W.Frag) (M B : As) (H : Hp) : List Bool → List V → List D → Prop
  | nil : RpF K M B H [] [] []
  | cons {b : Bool} {fl : List Bool} {v : V} {vs : List V} {d : D} {ds : List D} (h1 : Rp K (Sn b M B) H v d) (h2 : RpF K M B H fl vs ds) : RpF K M B H (b :: fl) (v :: vs) (d :: ds)
theorem RpF.len {K : PySem.W.Frag} {M B : As} {H : Hp} : ∀ {fl : List Bool} {vs : List V} {ds : List D}, RpF K M B H fl vs ds → vs.length = fl.length
  | _, _, _, .nil => rfl
  | _, _, _, .cons _ h => congrArg (· + 1) h.len
theorem RpF.lenD {K : PySem.W.Frag} {M B : As} {H : Hp} : ∀ {fl : List Bool} {vs : List V} {ds : List D}, RpF K M B H fl vs ds → ds.length = fl.length
  | _, _, _, .nil => rfl
  | _, _, _, .cons _ h => congrArg (· + 1) h.lenD
theorem RpF.ext {K : PySem.W.Frag} {M B : As} {H H' : Hp} (s : Same H H') : ∀ {fl : List Bool} {vs : List V} {ds : List D}, RpF K M B H fl vs ds → RpF K M B H' fl vs ds
  | _, _, _, .nil => .nil
  | _, _, _, .cons h1 h2 => .cons ((Keep.ext s).rp h1) (h2.ext s)
def OutOk (K : PySem.W.Frag) (cl : XC → Addr) (M B : As) (r : Bool) (H : Hp) (Q : VK) (E : XK) : Out → Prop
  | .val d => ∀ v H', Same H H' → Rp K (Sn r M B) H' v d → Q v H'
  | .new ds => ∀ p vs H', Same H H' → H p = none → H' p = some (.lst vs) → RpA K (fun b => Sn r M B b ∨ b = p) H' vs ds → Q (.ref p) H'
  | .err c => ∀ H', Same H H' → E (.ref (cl c)) none H'
/-- fl: which arguments keep off B (the others off M), r: whether what is handed back keeps off B -/
def spD (K : PySem.W.Frag) (cl : XC → Addr) (fl : List Bool) (r : Bool) (Pre : List D → Prop) (Post : List D → Out → Prop) : Sp := fun vs H Q E =>
  ∃ (M B : As) (ds : List D), Wf M B H ∧ RpF K M B H fl vs ds ∧ Pre ds ∧ ∀ out, Post ds out → OutOk K cl M B r H Q E out
/-! ### a def's state -/
structure Ct where
  K : PySem.W.Frag
  M : As
  B : As
  H0 : Hp
  Hb : Hp
abbrev Ct.re (C : Ct) (h : Hp) : Ct := { C with Hb := h }
def Dist (σ : St) (env : List Sl) : Prop := ∀ (i j : Nat) (p : Addr) n m ds es, env[i]? = some (.own n ds) → env[j]? = some (.own m es) → σ[i]? = some (some (.ref p)) → σ[j]? = some (some (.ref p)) → i = j
structure GoodL (C : Ct) (L : As) (env : List Sl) (σ : St) (H : Hp) : Prop where
  b0 : Same C.H0 C.Hb
  b1 : Same C.Hb H
  wf : Wf C.M C.B C.H0
  lf : ∀ a, L a → C.Hb a = none ∧ ∃ xs, H a = some (.lst xs)
  ok : EnvOk C.K (fun a => C.M a ∨ L a) (fun a => C.B a ∨ L a) H σ env
  di : Dist σ env
  ol : ∀ (i : Nat) n ds (p : Addr), env[i]? = some (.own n ds) → σ[i]? = some (some (.ref p)) → L p
section
variable {C : Ct} {L : As} {env env' : List Sl} {σ : St} {H H' : Hp} {n m r : Bool} {d e : D} {ds es : List D} {i j : Nat} {te ta tb : TE} {tt : TT} {P : Po} {v : V} {D : Ends} {u t t1 t2 : TS} {α : Type}
theorem sn_or (n : Bool) (M B L : As) (a : Addr) : Sn n (fun a => M a ∨ L a) (fun a => B a ∨ L a) a ↔ Sn n M B a ∨ L a := by cases n <;> exact Iff.rfl
theorem GoodL.w (g : GoodL C L env σ H) : Wf (fun a => C.M a ∨ L a) (fun a => C.B a ∨ L a) H := by
  have w := (g.wf.ext g.b0).ext g.b1
  refine ⟨fun a h => h.imp_left (w.sub a), fun a h => h.elim (w.trk a) fun z => ?_⟩
  obtain ⟨_, xs, e⟩ := g.lf a z
  rw [e]; exact fun z => nomatch z
theorem GoodL.ext (g : GoodL C L env σ H) (s : Same H H') : GoodL C L env σ H' :=
  ⟨g.b0, g.b1.trans s, g.wf, fun a h => let ⟨x, xs, y⟩ := g.lf a h; ⟨x, xs, s _ _ y⟩, g.ok.ext s, g.di, g.ol⟩
theorem GoodL.noL (g : GoodL C L env σ H) {a : Addr} (h : L a) (n : Bool) : ¬ Sn n C.M C.B a := fun z => by
  have h1 := g.wf.snT n a z
  have h2 := (g.lf a h).1
  exact h1 (g.b0.free h2)
theorem own_ne {env : List Sl} {i j : Nat} {n m : Bool} {d : DL.D} {ds : List DL.D} (h : (env.set i (.val m d))[j]? = some (.own n ds)) : j ≠ i ∧ env[j]? = some (.own n ds) := by
  by_cases z : i = j
  · subst z
    by_cases hi : i < env.length
    · rw [List.getElem?_set_self hi] at h
      cases h
    · rw [List.getElem?_eq_none (by rw [List.length_set]; omega)] at h
      cases h
  · rw [List.getElem?_set_ne z] at h
    exact ⟨fun y => z y.symm, h⟩
theorem GoodL.setVal (g : GoodL C L env σ H) (r : Rp C.K (Sn n (fun a => C.M a ∨ L a) (fun a => C.B a ∨ L a)) H v d) : GoodL C L (env.set i (.val n d)) (σ.set i (some v)) H :=
  ⟨g.b0, g.b1, g.wf, g.lf, g.ok.set ⟨v, rfl, r⟩, fun j k p n m ds es h1 h2 h3 h4 => by
    obtain ⟨n1, e1⟩ := own_ne h1
    obtain ⟨n2, e2⟩ := own_ne h2
    rw [List.getElem?_set_ne (fun z => n1 z.symm)] at h3
    rw [List.getElem?_set_ne (fun z => n2 z.symm)] at h4
    exact g.di j k p n m ds es e1 e2 h3 h4, fun j n ds p h1 h3 => by
    obtain ⟨n1, e1⟩ := own_ne h1
    rw [List.getElem?_set_ne (fun z => n1 z.symm)] at h3
    exact g.ol j n ds p e1 h3⟩
theorem GoodL.setOwn (g : GoodL C L env σ H) (s : Same H H') {p : Addr} {vs : List V} (hp : H p = none) (hv : H' p = some (.lst vs)) (r : RpA C.K (fun b => Sn n (fun a => C.M a ∨ L a) (fun a => C.B a ∨ L a) b ∨ b = p) H' vs ds) :
    GoodL C (fun a => L a ∨ a = p) (env.set i (.own n ds)) (σ.set i (some (.ref p))) H' := by
  have eM : (fun a => (C.M a ∨ L a) ∨ a = p) = fun a => C.M a ∨ (L a ∨ a = p) := funext fun a => propext or_assoc
  have eB : (fun a => (C.B a ∨ L a) ∨ a = p) = fun a => C.B a ∨ (L a ∨ a = p) := funext fun a => propext or_assoc
  have ok := g.ok.add s hp
  rw [eM, eB] at ok
  refine ⟨g.b0, g.b1.trans s, g.wf, fun a h => ?_, ok.set ⟨p, vs, rfl, .inr (.inr rfl), hv, ?_⟩, fun j k q n m ds es h1 h2 h3 h4 => ?_, fun j n1 ds1 q h1 h3 => ?_⟩
  · rcases h with h | h
    · obtain ⟨x, xs, y⟩ := g.lf a h
      exact ⟨x, xs, s _ _ y⟩
    · rw [h]
      exact ⟨g.b1.free hp, vs, hv⟩
  · refine (Keep.less fun a h => ?_).rpA r
    rw [sn_or] at h ⊢
    rcases h with h | h | h
    · exact .inl (.inl h)
    · exact .inl (.inr h)
    · exact .inr h
  · have old : ∀ {k : Nat} {m : Bool} {es : List DL.D} {q : Addr}, k ≠ i → env[k]? = some (.own m es) → σ[k]? = some (some (.ref q)) → q ≠ p := fun {k m es q} hk he hs z => by
      obtain ⟨p', vs', e1, _, e3, _⟩ := g.ok.sl k _ he
      rw [hs] at e1
      cases e1
      rw [z, hp] at e3
      cases e3
    have split : ∀ {k : Nat} {m : Bool} {es : List DL.D}, (env.set i (.own n ds))[k]? = some (.own m es) → k = i ∨ (k ≠ i ∧ env[k]? = some (.own m es)) := fun {k m es} h => by
      by_cases z : i = k
      · exact .inl z.symm
      · rw [List.getElem?_set_ne z] at h
        exact .inr ⟨fun y => z y.symm, h⟩
    have at_i : ∀ {q : Addr}, (σ.set i (some (.ref p)))[i]? = some (some (.ref q)) → q = p := fun {q} h => by
      by_cases hi : i < σ.length
      · rw [List.getElem?_set_self hi] at h
        cases h; rfl
      · rw [List.getElem?_eq_none (by rw [List.length_set]; omega)] at h
        cases h
    by_cases zj : j = i
    · by_cases zk : k = i
      · rw [zj, zk]
      · subst zj
        have e2 : env[k]? = some (.own m es) := by rw [List.getElem?_set_ne (fun z => zk z.symm)] at h2; exact h2
        rw [List.getElem?_set_ne (fun z => zk z.symm)] at h4
        exact absurd (at_i h3) (old zk e2 h4)
    · have e1 : env[j]? = some (.own n ds) := by rw [List.getElem?_set_ne (fun z => zj z.symm)] at h1; exact h1
      rw [List.getElem?_set_ne (fun z => zj z.symm)] at h3
      by_cases zk : k = i
      · subst zk
        exact absurd (at_i h4) (old zj e1 h3)
      · have e2 : env[k]? = some (.own m es) := by rw [List.getElem?_set_ne (fun z => zk z.symm)] at h2; exact h2
        rw [List.getElem?_set_ne (fun z => zk z.symm)] at h4
        exact g.di j k q _ _ _ _ e1 e2 h3 h4
  · by_cases zj : j = i
    · subst zj
      refine .inr ?_
      by_cases hi : j < σ.length
      · rw [List.getElem?_set_self hi] at h3
        cases h3; rfl
      · rw [List.getElem?_eq_none (by rw [List.length_set]; omega)] at h3
        cases h3
    · rw [List.getElem?_set_ne (fun z => zj z.symm)] at h1 h3
      exact .inl (g.ol j n1 ds1 q h1 h3)
/-- an owned list is changed -/
theorem GoodL.mutate (g : GoodL C L env σ H) (hi : env[i]? = some (.own n ds)) {p : Addr} (hs : σ[i]? = some (some (.ref p))) {vs : List V} (r : RpA C.K (Sn n (fun a => C.M a ∨ L a) (fun a => C.B a ∨ L a)) H vs es) :
    GoodL C L (env.set i (.own n es)) σ (upd H p (.lst vs)) := by
  obtain ⟨p', us, e1, mp, e3, _⟩ := g.ok.sl i _ hi
  rw [hs] at e1
  cases e1
  have lp := g.ol i n ds p hi hs
  have km : ∀ k : Bool, Keep (Sn k (fun a => C.M a ∨ L a) (fun a => C.B a ∨ L a)) (Sn k (fun a => C.M a ∨ L a) (fun a => C.B a ∨ L a)) H (upd H p (.lst vs)) := fun k => .mut ((sn_or k _ _ _ _).mpr (.inr lp)) e3
  have il : i < env.length := (List.getElem?_eq_some_iff.mp hi).1
  have back : ∀ {k : Nat} {m : Bool} {fs : List DL.D}, (env.set i (.own n es))[k]? = some (.own m fs) → ∃ m' fs', env[k]? = some (.own m' fs') := fun {k m fs} h => by
    by_cases z : i = k
    · rw [← z]; exact ⟨n, ds, hi⟩
    · rw [List.getElem?_set_ne z] at h
      exact ⟨m, fs, h⟩
  refine ⟨g.b0, fun a o q => ?_, g.wf, fun a h => ?_, ⟨by rw [List.length_set]; exact g.ok.len, fun k s hk => ?_⟩, fun j k q n1 m1 ds1 es1 h1 h2 h3 h4 => ?_, fun j n1 ds1 q h1 h3 => ?_⟩
  · rw [upd_ne (fun z => by rw [z, (g.lf p lp).1] at q; cases q)]
    exact g.b1 a o q
  · obtain ⟨x, xs, y⟩ := g.lf a h
    refine ⟨x, ?_⟩
    by_cases z : a = p
    · rw [z]; exact ⟨vs, upd_same⟩
    · exact ⟨xs, by rw [upd_ne z]; exact y⟩
  · by_cases z : i = k
    · subst z
      rw [List.getElem?_set_self il] at hk
      cases hk
      exact ⟨p, vs, hs, mp, upd_same, (km n).rpA r⟩
    · rw [List.getElem?_set_ne z] at hk
      have q := g.ok.sl k s hk
      cases s with
      | un => trivial
      | val m d =>
        obtain ⟨v, v1, v2⟩ := q
        exact ⟨v, v1, (km m).rp v2⟩
      | own m fs =>
        obtain ⟨p', us', v1, v2, v3, v4⟩ := q
        refine ⟨p', us', v1, v2, ?_, (km m).rpA v4⟩
        rw [upd_ne (fun y => z (g.di i k p n m ds fs hi hk hs (by rw [v1, y])))]
        exact v3
  · obtain ⟨_, _, e1⟩ := back h1
    obtain ⟨_, _, e2⟩ := back h2
    exact g.di j k q _ _ _ _ e1 e2 h3 h4
  · obtain ⟨_, _, e1⟩ := back h1
    exact g.ol j _ _ q e1 h3
/-- an owned list is let go: it stays as it is -/
theorem GoodL.freeze (g : GoodL C L env σ H) (hi : env[i]? = some (.own n ds)) : ∃ L', GoodL C L' (env.set i (.val n (.list ds))) σ H := by
  obtain ⟨p, us, hs, mp, e3, r⟩ := g.ok.sl i _ hi
  have lp := g.ol i n ds p hi hs
  have il : i < env.length := (List.getElem?_eq_some_iff.mp hi).1
  refine ⟨fun a => L a ∧ a ≠ p, g.b0, g.b1, g.wf, fun a h => g.lf a h.1, ⟨by rw [List.length_set]; exact g.ok.len, fun k s hk => ?_⟩, fun j k q n1 m1 ds1 es1 h1 h2 h3 h4 => ?_, fun j n1 ds1 q h1 h3 => ?_⟩
  · have less : ∀ m : Bool, Keep (Sn m (fun a => C.M a ∨ L a) (fun a => C.B a ∨ L a)) (Sn m (fun a => C.M a ∨ (L a ∧ a ≠ p)) (fun a => C.B a ∨ (L a ∧ a ≠ p))) H H := fun m => .less fun a h => by
      rw [sn_or] at h ⊢
      exact h.imp_right fun z => z.1
    by_cases z : i = k
    · subst z
      rw [List.getElem?_set_self il] at hk
      cases hk
      refine ⟨.ref p, hs, .lst (fun h => ?_) e3 ((less n).rpA r)⟩
      rw [sn_or] at h
      rcases h with h | h
      · exact g.noL lp n h
      · exact h.2 rfl
    · rw [List.getElem?_set_ne z] at hk
      have q := g.ok.sl k s hk
      cases s with
      | un => trivial
      | val m d =>
        obtain ⟨v, v1, v2⟩ := q
        exact ⟨v, v1, (less m).rp v2⟩
      | own m fs =>
        obtain ⟨p', us', v1, v2, v3, v4⟩ := q
        exact ⟨p', us', v1, .inr ⟨g.ol k m fs p' hk v1, fun y => z (g.di i k p n m ds fs hi hk hs (by rw [v1, y]))⟩, v3, (less m).rpA v4⟩
  · obtain ⟨_, e1⟩ := own_ne h1
    obtain ⟨_, e2⟩ := own_ne h2
    exact g.di j k q _ _ _ _ e1 e2 h3 h4
  · obtain ⟨n2, e1⟩ := own_ne h1
    exact ⟨g.ol j _ _ q e1 h3, fun y => n2 (g.di j i q n1 n ds1 ds e1 hi h3 (by rw [hs, y]))⟩
/-- slots may be forgotten -/
def Less (env' env : List Sl) : Prop := env'.length = env.length ∧ ∀ (i : Nat) s, env'[i]? = some s → s = .un ∨ env[i]? = some s
inductive LessI : List Sl → List Sl → Prop
  | nil : LessI [] []
  | keep {s : Sl} {a b : List Sl} : LessI a b → LessI (s :: a) (s :: b)
  | drop {s : Sl} {a b : List Sl} : LessI a b → LessI (.un :: a) (s :: b)
theorem LessI.less {a b : List Sl} (h : LessI a b) : Less a b := by
  induction h with
  | nil => exact ⟨rfl, fun i s h => by simp at h⟩
  | keep _ ih =>
    refine ⟨congrArg (· + 1) ih.1, fun i s h => ?_⟩
    cases i with
    | zero => exact .inr h
    | succ i => exact ih.2 i s h
  | drop _ ih =>
    refine ⟨congrArg (· + 1) ih.1, fun i s h => ?_⟩
    cases i with
    | zero => exact .inl (Option.some.inj h).symm
    | succ i => exact ih.2 i s h
theorem GoodL.weak (g : GoodL C L env σ H) (h : Less env' env) : GoodL C L env' σ H := by
  refine ⟨g.b0, g.b1, g.wf, g.lf, ⟨by rw [h.1]; exact g.ok.len, fun k s hk => ?_⟩, fun j k q n1 m1 ds1 es1 h1 h2 h3 h4 => ?_, fun j n1 ds1 q h1 h3 => ?_⟩
  · rcases h.2 k s hk with e | e
    · rw [e]; trivial
    · exact g.ok.sl k s e
  · exact g.di j k q _ _ _ _ ((h.2 j _ h1).resolve_left fun z => nomatch z) ((h.2 k _ h2).resolve_left fun z => nomatch z) h3 h4
  · exact g.ol j _ _ q ((h.2 j _ h1).resolve_left fun z => nomatch z) h3
theorem GoodL.rebase (g : GoodL C L env σ H) : GoodL (C.re (hideL L H)) L env σ H ∧ Same C.Hb (hideL L H) := by
  have s : Same C.Hb (hideL L H) := fun a o q => by
    rw [hideL_out (fun z => by rw [(g.lf a z).1] at q; cases q)]
    exact g.b1 a o q
  exact ⟨⟨g.b0.trans s, hideL_same, g.wf, fun a h => ⟨hideL_in h, (g.lf a h).2⟩, g.ok, g.di, g.ol⟩, s⟩
theorem GoodL.up {hb : Hp} (g : GoodL (C.re hb) L env σ H) (b : Same C.H0 C.Hb) (s : Same C.Hb hb) : GoodL C L env σ H :=
  ⟨b, s.trans g.b1, g.wf, fun a h => ⟨s.free (g.lf a h).1, (g.lf a h).2⟩, g.ok, g.di, g.ol⟩
/-! ### statements -/
def Run (C : Ct) (D : Ends) (t : TS) (env : List Sl) : Prop := ∀ L σ H, GoodL C L env σ H → t D σ H
theorem GoodL.eval (g : GoodL C L env σ H) (h : Jd C.K te env P) {Q : VK} (q : ∀ v H', Same H H' → GoodL C L env σ H' → P (fun a => C.M a ∨ L a) (fun a => C.B a ∨ L a) H v H' → Q v H') : te σ H Q :=
  h _ _ σ H Q g.w g.ok fun v H' s p => q v H' s (g.ext s) p
theorem run_one (h : Run C D (tSeq t tNext) env) : Run C D t env := h
theorem run_seq (h : Run C { D with nx := u D } t env) : Run C D (tSeq t u) env := h
theorem run_assoc (h : Run C D (tSeq t1 (tSeq t2 u)) env) : Run C D (tSeq (tSeq t1 t2) u) env := h
theorem run_cut (h : Run C D (tSeq t u) env) : Run C { D with nx := u D } t env := h
theorem run_set (h : JD C.K te env n d) (k : Run C D u (env.set i (.val n d))) : Run C D (tSeq (tAsg te (gName i)) u) env := fun L σ H g =>
  g.eval h fun v H' s g' r => k L _ _ (g'.setVal r)
theorem run_setV (h : JV C.K te env v) (e : flatD d = some v) (k : Run C D u (env.set i (.val true d))) : Run C D (tSeq (tAsg te (gName i)) u) env := run_set (h.ofV e) k
theorem run_setI {z : Int} (h : JV C.K te env (.int z)) (k : Run C D u (env.set i (.val true (.int z)))) : Run C D (tSeq (tAsg te (gName i)) u) env := run_setV h rfl k
theorem run_setB {z : Bool} (h : JV C.K te env (.bl z)) (k : Run C D u (env.set i (.val true (.bool z)))) : Run C D (tSeq (tAsg te (gName i)) u) env := run_setV h rfl k
theorem run_setN (h : JN C.K te env n ds) (k : Run C D u (env.set i (.own n ds))) : Run C D (tSeq (tAsg te (gName i)) u) env := fun L σ H g =>
  g.eval h fun v H' s g' ⟨p, vs, e1, e2, e3, e4⟩ => by
    rw [e1]
    exact k _ _ _ (g.setOwn s e2 e3 e4)
theorem run_setP {p : DL.D → Prop} (h : Jd C.K te env (pP C.K n p)) (k : ∀ d, p d → Run C D u (env.set i (.val n d))) : Run C D (tSeq (tAsg te (gName i)) u) env := fun L σ H g =>
  g.eval h fun v H' s g' ⟨d, hd, r⟩ => k d hd L _ _ (g'.setVal r)
theorem run_tg {g : TG} {js : List Nat} (h : JD C.K te env n d) (tg : TgOk C.K g d n env env' js) (k : Run C D u env') : Run C D (tSeq (tAsg te g) u) env := fun L σ H gd =>
  gd.eval h fun v H' s g' r => tg.run _ _ σ H' v _ g'.ok r fun σ' ok' o' l' => k L σ' H' ⟨g'.b0, g'.b1, g'.wf, g'.lf, ok', fun i j p n m ds es h1 h2 h3 h4 => by
    obtain ⟨a1, a2⟩ := tg.own i n ds h1
    obtain ⟨b1, b2⟩ := tg.own j m es h2
    rw [o' i a2] at h3
    rw [o' j b2] at h4
    exact g'.di i j p _ _ _ _ a1 b1 h3 h4, fun i n ds p h1 h3 => by
    obtain ⟨a1, a2⟩ := tg.own i n ds h1
    rw [o' i a2] at h3
    exact g'.ol i _ _ p a1 h3⟩
theorem run_tgP {g : TG} {p : DL.D → Prop} (h : Jd C.K te env (pP C.K n p)) (k : ∀ d, p d → ∃ env' js, TgOk C.K g d n env env' js ∧ Run C D u env') : Run C D (tSeq (tAsg te g) u) env := fun L σ H gd =>
  gd.eval h fun v H' s g' ⟨d, hd, r⟩ => by
    obtain ⟨env', js, tg, kk⟩ := k d hd
    exact tg.run _ _ σ H' v _ g'.ok r fun σ' ok' o' l' => kk L σ' H' ⟨g'.b0, g'.b1, g'.wf, g'.lf, ok', fun i j p n m ds es h1 h2 h3 h4 => by
      obtain ⟨a1, a2⟩ := tg.own i n ds h1
      obtain ⟨b1, b2⟩ := tg.own j m es h2
      rw [o' i a2] at h3
      rw [o' j b2] at h4
      exact g'.di i j p _ _ _ _ a1 b1 h3 h4, fun i n ds p h1 h3 => by
      obtain ⟨a1, a2⟩ := tg.own i n ds h1
      rw [o' i a2] at h3
      exact g'.ol i _ _ p a1 h3⟩
theorem run_drop (h : Jd C.K te env P) (k : Run C D u env) : Run C D (tSeq (tDrop te) u) env := fun L σ H g => g.eval h fun v H' s g' _ => k L σ H' g'
theorem run_if {b : Bool} (h : Jt C.K tt env b) (k1 : b = true → Run C D (tSeq t1 u) env) (k2 : b = false → Run C D (tSeq t2 u) env) : Run C D (tSeq (tIfS tt t1 t2) u) env := fun L σ H g =>
  h _ _ σ H _ g.w g.ok fun H' s => by
    cases b with
    | true => exact iteT (k1 rfl L σ H' (g.ext s))
    | false => exact iteF (k2 rfl L σ H' (g.ext s))
theorem run_next (h : Run C D u env) : Run C D (tSeq tNext u) env := h
theorem run_freeze (hi : env[i]? = some (.own n ds)) (k : Run C D u (env.set i (.val n (.list ds)))) : Run C D u env := fun L σ H g => let ⟨L', g'⟩ := g.freeze hi; k L' σ H g'
theorem run_weak (h : Less env' env) (k : Run C D u env') : Run C D u env := fun L σ H g => k L σ H (g.weak h)
theorem run_append (hi : env[i]? = some (.own n ds)) (h : JD C.K te env n d) (hz : ds.length < 100000) (k : Run C D u (env.set i (.own n (ds ++ [d])))) : Run C D (tSeq (tDrop (tBM C.K "list" rAppend (tVar i) (tCons te tNil))) u) env := fun L σ H g => by
  obtain ⟨p, us, hs, mp, e3, r⟩ := g.ok.sl i _ hi
  refine ⟨.ref p, hs, .inl ⟨rfl, us, SqL.of e3⟩, g.eval h fun v H' s g' rv => ?_⟩
  exact ⟨p, us, v, rfl, rfl, s _ _ e3, szl' (by rw [r.length]; exact hz), k L σ _ (g'.mutate hi hs (((Keep.ext s).rpA r).append (.cons rv .nil)))⟩
theorem run_extend (hi : env[i]? = some (.own n ds)) (h : JS C.K te env n es) (hz : ds.length + es.length ≤ 100000) (k : Run C D u (env.set i (.own n (ds ++ es)))) : Run C D (tSeq (tDrop (tBM C.K "list" rExtend (tVar i) (tCons te tNil))) u) env := fun L σ H g => by
  obtain ⟨p, us, hs, mp, e3, r⟩ := g.ok.sl i _ hi
  refine ⟨.ref p, hs, .inl ⟨rfl, us, SqL.of e3⟩, g.eval h fun v H' s g' ⟨b, ws, e1, e2, rw'⟩ => ?_⟩
  rw [e1]
  exact ⟨p, b, us, ws, rfl, rfl, s _ _ e3, e2, szl (by rw [r.length, rw'.length]; exact hz), k L σ _ (g'.mutate hi hs (((Keep.ext s).rpA r).append rw'))⟩
theorem run_put {tk : TE} {z : Int} (hi : env[i]? = some (.own n ds)) (h : JD C.K te env n d) (hk : JV C.K tk env (.int z)) {j : Nat} (hz : z = (j : Int)) (hj : j < ds.length) (k : Run C D u (env.set i (.own n (ds.set j d)))) :
    Run C D (tSeq (tAsg te (gSub (tVar i) tk rSetL)) u) env := fun L σ H g => by
  obtain ⟨p, us, hs, mp, e3, r⟩ := g.ok.sl i _ hi
  refine g.eval h fun v H1 s1 g1 rv => ⟨.ref p, hs, ?_⟩
  refine g1.eval hk fun w H2 s2 g2 ew => ?_
  have ew' : w = V.int z := ew
  rw [ew', hz]
  refine ⟨p, us, (j : Int), j, rfl, rfl, s2 _ _ (s1 _ _ e3), ?_, k L σ _ (g2.mutate hi hs (RpA.set ((Keep.ext s2).rp rv) j ((Keep.ext (s1.trans s2)).rpA r)))⟩
  unfold ixN
  have hl : j < us.length := by rw [r.length]; exact hj
  rw [if_pos (by omega), if_pos (by omega)]
  simp
/-! ### ends -/
def RetV (C : Ct) (D : Ends) (n : Bool) (d : DL.D) : Prop := ∀ v H', Same C.H0 H' → Rp C.K (Sn n C.M C.B) H' v d → D.rt v H'
def RetN (C : Ct) (D : Ends) (n : Bool) (ds : List DL.D) : Prop := ∀ p vs H', Same C.H0 H' → C.H0 p = none → H' p = some (.lst vs) → RpA C.K (fun b => Sn n C.M C.B b ∨ b = p) H' vs ds → D.rt (.ref p) H'
theorem RetN.of (h : RetV C D n (.list ds)) (w : Wf C.M C.B C.H0) : RetN C D n ds := fun p vs H' s hp hv r => h _ _ s (.lst (fun z => w.snT n p z hp) hv ((Keep.less fun _ => .inl).rpA r))
theorem Keep.lessL (n : Bool) {M B L : As} {H : Hp} : Keep (Sn n (fun a => M a ∨ L a) (fun a => B a ∨ L a)) (Sn n M B) H H := .less fun a h => (sn_or n M B L a).mpr (.inl h)
theorem run_ret (h : JD C.K te env n d) (q : RetV C D n d) : Run C D (tRet te) env := fun L σ H g =>
  g.eval h fun v H' s g' r => q v H' (g'.b0.trans g'.b1) ((Keep.lessL n).rp r)
theorem run_retV (h : JV C.K te env v) (e : flatD d = some v) (q : RetV C D n d) : Run C D (tRet te) env := run_ret (h.ofV e) q
theorem run_retN (h : JN C.K te env n ds) (q : RetN C D n ds) : Run C D (tRet te) env := fun L σ H g =>
  g.eval h fun v H' s g' ⟨p, vs, e1, e2, e3, e4⟩ => by
    rw [e1]
    exact q p vs H' (g'.b0.trans g'.b1) ((g.b0.trans g.b1).free e2) e3 ((Keep.less fun a h => h.imp_left fun z => (sn_or n _ _ _ _).mpr (.inl z)).rpA e4)
theorem run_retO (hi : env[i]? = some (.own n ds)) (q : RetN C D n ds) : Run C D (tRet (tVar i)) env := fun L σ H g => by
  obtain ⟨p, us, hs, mp, e3, r⟩ := g.ok.sl i _ hi
  have lp := g.ol i n ds p hi hs
  refine ⟨.ref p, hs, q p us H (g.b0.trans g.b1) (g.b0.free (g.lf p lp).1) e3 ((Keep.less fun a h => ?_).rpA r)⟩
  rw [sn_or]
  rcases h with h | h
  · exact .inl h
  · rw [h]; exact .inr lp
theorem run_retP {p : DL.D → Prop} (h : Jd C.K te env (pP C.K n p)) (q : ∀ d, p d → RetV C D n d) : Run C D (tRet te) env := fun L σ H g =>
  g.eval h fun v H' s g' ⟨d, hd, r⟩ => q d hd v H' (g'.b0.trans g'.b1) ((Keep.lessL n).rp r)
theorem run_retSeq (h : Run C D (tRet te) env) : Run C D (tSeq (tRet te) u) env := h
/-- the body's end without return -/
def NxNone (C : Ct) (D : Ends) : Prop := ∀ σ H', Same C.H0 H' → D.nx σ H'
theorem run_endN (q : NxNone C D) : Run C D tNext env := fun L σ H g => q σ H (g.b0.trans g.b1)
/-- an error leaves -/
theorem run_raise {W : XK} {cls : Value} (q : ∀ H', Same C.H0 H' → W cls none H') : Run C D (fun _ _ H => W cls none H) env := fun L σ H g => q H (g.b0.trans g.b1)
theorem run_raiseSeq (h : Run C D t env) (ht : ∀ D' σ H, t D σ H → t D' σ H) : Run C D (tSeq t u) env := fun L σ H g => ht _ σ H (h L σ H g)
/-! ### loops -/
def LoopNx (C : Ct) (I : Nat → List Sl → Prop) (k : Nat) : St → Hp → Prop := fun σ H => ∃ env, I k env ∧ ∃ L, GoodL C L env σ H
theorem run_loopNx {I : Nat → List Sl → Prop} {k : Nat} {r : VK} {bk ct : St → Hp → Prop} (h : I k env) : Run C { nx := LoopNx C I k, rt := r, bk := bk, ct := ct } tNext env := fun L σ H g => ⟨env, h, L, g⟩
theorem run_loopW {I : Nat → List Sl → Prop} {k : Nat} {r : VK} {bk ct : St → Hp → Prop} (h : I k env') (w : LessI env' env) : Run C { nx := LoopNx C I k, rt := r, bk := bk, ct := ct } tNext env := run_weak w.less (run_loopNx h)
theorem GoodL.tg {g : TG} {js : List Nat} (gd : GoodL C L env σ H) (tg : TgOk C.K g d n env env' js) {v : V} (r : Rp C.K (Sn n (fun a => C.M a ∨ L a) (fun a => C.B a ∨ L a)) H v d) {Q : St → Hp → Prop} (q : ∀ σ', GoodL C L env' σ' H → Q σ' H) : g v σ H Q :=
  tg.run _ _ σ H v _ gd.ok r fun σ' ok' o' l' => q σ' ⟨gd.b0, gd.b1, gd.wf, gd.lf, ok', fun i j p n m ds es h1 h2 h3 h4 => by
    obtain ⟨a1, a2⟩ := tg.own i n ds h1
    obtain ⟨b1, b2⟩ := tg.own j m es h2
    rw [o' i a2] at h3
    rw [o' j b2] at h4
    exact gd.di i j p _ _ _ _ a1 b1 h3 h4, fun i n ds p h1 h3 => by
    obtain ⟨a1, a2⟩ := tg.own i n ds h1
    rw [o' i a2] at h3
    exact gd.ol i _ _ p a1 h3⟩
theorem run_forL {g : TG} {tb : TS} {n0 : Bool} {enc : α → DL.D} (xs : List α) (I : Nat → List Sl → Prop) (hl : JD C.K te env n0 (.list (xs.map enc))) (h0 : I 0 env)
    (hs : ∀ hb k x env1, xs[k]? = some x → I k env1 → ∃ env2 js, TgOk C.K g (enc x) n0 env1 env2 js ∧ Run (C.re hb) { D with nx := LoopNx (C.re hb) I (k + 1), ct := LoopNx (C.re hb) I (k + 1), bk := u D } tb env2)
    (he : ∀ env1, I xs.length env1 → Run C D u env1) : Run C D (tSeq (tFor (iList C.K te) g tb) u) env := fun L σ H gd =>
  gd.eval hl fun v H1 s1 g1 r1 => by
    obtain ⟨a, us, e1, e2, e3, e4⟩ := Rp.list_inv r1
    have hlen : us.length = xs.length := by rw [e4.length, List.length_map]
    obtain ⟨gb, sb⟩ := g1.rebase
    have na : ¬ L a := fun z => e2 ((sn_or n0 _ _ _ _).mpr (.inr z))
    have ha : hideL L H1 a = some (.lst us) := by rw [hideL_out na]; exact e3
    refine ⟨a, e1, ⟨us, SqL.of e3⟩, ?_⟩
    refine for_list (K := C.K) (a := a) (xs := us) (fun k => LoopNx (C.re (hideL L H1)) I k) ⟨env, h0, L, gb⟩ (fun k σ' H' _ ⟨_, _, _, g'⟩ => SqL.of (g'.b1 _ _ ha)) (fun k v σ' H' hk ⟨env1, i1, L1, g'⟩ => ?_) (fun σ' H' ⟨env1, i1, L1, g'⟩ => ?_)
    · have hk' : k < xs.length := by rw [← hlen]; exact (List.getElem?_eq_some_iff.mp hk).1
      have hx := List.getElem?_eq_getElem hk'
      obtain ⟨env2, js, tg, run⟩ := hs (hideL L H1) k _ env1 hx i1
      obtain ⟨d, hd, rd⟩ := e4.getV hk
      have ed : d = enc xs[k] := by
        rw [List.getElem?_map, hx] at hd
        exact (Option.some.inj hd).symm
      rw [ed] at rd
      have k1 : Keep (Sn n0 (fun a => C.M a ∨ L a) (fun a => C.B a ∨ L a)) (Sn n0 (fun a => C.M a ∨ L a) (fun a => C.B a ∨ L a)) H1 (hideL L H1) := .hide (fun b z => (sn_or n0 _ _ _ _).mpr (.inr z)) fun b z => (g1.lf b z).2
      have k2 : Keep (Sn n0 (fun a => C.M a ∨ L a) (fun a => C.B a ∨ L a)) (Sn n0 (fun a => C.M a ∨ L1 a) (fun a => C.B a ∨ L1 a)) (hideL L H1) H' := .same g'.b1 fun b z => by
        rw [sn_or] at z ⊢
        rcases z with z | z
        · exact .inl (.inl z)
        · exact .inr (g'.lf b z).1
      refine GoodL.tg g' tg ((k1.trans k2).rp rd) fun σ2 g2 => ?_
      exact run L1 σ2 H' g2
    · rw [hlen] at i1
      exact he env1 i1 L1 σ' H' (g'.up g1.b0 sb)
theorem run_forR {tb : TS} {k : Int} (I : Nat → List Sl → Prop) (hl : JV C.K te env (.int k)) (hz : k ≤ 100000) (hn : -100000 ≤ k) (h0 : I 0 env)
    (hs : ∀ j env1, j < k.toNat → I j env1 → Run C { D with nx := LoopNx C I (j + 1), ct := LoopNx C I (j + 1), bk := u D } tb (env1.set i (.val true (natD j))))
    (he : ∀ env1, I k.toNat env1 → Run C D u env1) : Run C D (tSeq (tFor (iRng1 (tCons te tNil)) (gName i) tb) u) env := fun L σ H gd =>
  gd.eval hl fun v H1 s1 g1 r1 => by
    have e1 : v = V.int k := r1
    rw [e1]
    refine ⟨k, rfl, by omega, by omega, ?_⟩
    refine for_range (lo := 0) (n := k.toNat) (fun k => LoopNx C I k) ⟨env, h0, L, g1⟩ (fun j σ' H' hj ⟨env1, i1, L1, g'⟩ => ?_) (fun σ' H' ⟨env1, i1, L1, g'⟩ => he env1 i1 L1 σ' H' g')
    have z : (0 : Int) + (j : Int) = (j : Int) := Int.zero_add _
    rw [z]
    exact hs j env1 hj i1 L1 _ H' (g'.setVal (d := natD j) (.int _))
theorem run_forR2 {tb : TS} {a k : Int} (I : Nat → List Sl → Prop) (ha : JV C.K ta env (.int a)) (hl : JV C.K te env (.int k)) (hz : k ≤ 100000) (hn : -100000 ≤ k) (hz' : a ≤ 100000) (hn' : -100000 ≤ a) (h0 : I 0 env)
    (hs : ∀ j env1, j < (k - a).toNat → I j env1 → Run C { D with nx := LoopNx C I (j + 1), ct := LoopNx C I (j + 1), bk := u D } tb (env1.set i (.val true (.int (a + (j : Int))))))
    (he : ∀ env1, I (k - a).toNat env1 → Run C D u env1) : Run C D (tSeq (tFor (iRng2 (tCons ta (tCons te tNil))) (gName i) tb) u) env := fun L σ H gd =>
  gd.eval ha fun v0 H0 s0 g0 r0 => g0.eval hl fun v H1 s1 g1 r1 => by
    have e0 : v0 = V.int a := r0
    have e1 : v = V.int k := r1
    rw [e0, e1]
    refine ⟨a, k, rfl, ⟨by omega, by omega, by omega, by omega⟩, ?_⟩
    refine for_range (lo := a) (n := (k - a).toNat) (fun k => LoopNx C I k) ⟨env, h0, L, g1⟩ (fun j σ' H' hj ⟨env1, i1, L1, g'⟩ => ?_) (fun σ' H' ⟨env1, i1, L1, g'⟩ => he env1 i1 L1 σ' H' g')
    exact hs j env1 hj i1 L1 _ H' (g'.setVal (d := .int (a + (j : Int))) (.int _))
theorem run_while {tb : TS} (I : Nat → List Sl → Prop) (m0 : Nat) (h0 : I m0 env)
    (hs : ∀ m env1, I m env1 → ∃ b, Jt C.K tt env1 b ∧ (b = true → Run C { D with nx := fun σ H => ∃ m', m' < m ∧ LoopNx C I m' σ H, ct := fun σ H => ∃ m', m' < m ∧ LoopNx C I m' σ H, bk := u D } tb env1) ∧ (b = false → Run C D u env1)) :
    Run C D (tSeq (tWhile tt tb) u) env := fun L σ H gd => by
  refine ⟨fun m => LoopNx C I m, ⟨m0, env, h0, L, gd⟩, fun m σ' H' ⟨env1, i1, L1, g'⟩ => ?_⟩
  obtain ⟨b, ht, h1, h2⟩ := hs m env1 i1
  refine ht _ _ σ' H' _ g'.w g'.ok fun H2 s2 => ?_
  cases b with
  | true => exact iteT ⟨_, fun _ _ z => z, h1 rfl L1 σ' H2 (g'.ext s2)⟩
  | false => exact iteF (h2 rfl L1 σ' H2 (g'.ext s2))
/-! ### calls -/
def JFs (K : PySem.W.Frag) (fl : List Bool) (ta : TA) (env : List Sl) (ds : List DL.D) : Prop :=
  ∀ (M B : As) (σ : St) (H : Hp) (Q : List V → Hp → Prop), Wf M B H → EnvOk K M B H σ env → (∀ vs H', Same H H' → RpF K M B H' fl vs ds → Q vs H') → ta σ H Q
section
variable {K : PySem.W.Frag} {ta : TA} {fl : List Bool} {b : Bool} {cl : XC → Addr} {Pre : List DL.D → Prop} {Post : List DL.D → Out → Prop} {E : XK} {E' : St → XK}
theorem jf_nil : JFs K [] tNil env [] := fun M B σ H Q w e q => q [] H (Same.refl H) .nil
theorem jf_cons (h : JD K te env b d) (k : JFs K fl ta env ds) : JFs K (b :: fl) (tCons te ta) env (d :: ds) := fun M B σ H Q w e q =>
  h M B σ H _ w e fun v H1 s1 p1 => k M B σ H1 _ (w.ext s1) (e.ext s1) fun vs H2 s2 p2 => q (v :: vs) H2 (s1.trans s2) (.cons ((Keep.ext s2).rp p1) p2)
theorem jd_callP {p : DL.D → Prop} (h : JFs K fl ta env ds) (hp : Pre ds) (ho : ∀ out, Post ds out → ∃ d, p d ∧ (out = .val d ∨ ∃ es, d = .list es ∧ out = .new es)) : Jd K (tCall (spD K cl fl r Pre Post) [] E ta) env (pP K r p) := fun M B σ H Q w e q =>
  h M B σ H _ w e fun vs H1 s1 rf => ⟨M, B, ds, w.ext s1, by rw [List.append_nil]; exact rf, hp, fun out po => by
    obtain ⟨d, hd, rfl | ⟨es, rfl, rfl⟩⟩ := ho out po
    · exact fun v H' s' rv => q v H' (s1.trans s') ⟨d, hd, rv⟩
    · exact fun p vs H' s' hn hv rv => q _ H' (s1.trans s') ⟨_, hd, .lst (fun z => (w.ext s1).snT r p z hn) hv ((Keep.less fun _ => .inl).rpA rv)⟩⟩
theorem jd_call (h : JFs K fl ta env ds) (hp : Pre ds) (ho : ∀ out, Post ds out → out = .val d ∨ ∃ es, d = .list es ∧ out = .new es) : JD K (tCall (spD K cl fl r Pre Post) [] E ta) env r d :=
  (jd_callP (p := fun x => x = d) h hp fun out po => ⟨d, rfl, ho out po⟩).imp fun _ _ _ _ _ _ _ ⟨d', e, r⟩ => by
    show Rp _ _ _ _ _
    rw [← e]
    exact r
theorem jn_call (h : JFs K fl ta env ds) (hp : Pre ds) (ho : ∀ out, Post ds out → out = .new es) : JN K (tCall (spD K cl fl r Pre Post) [] E ta) env r es := fun M B σ H Q w e q =>
  h M B σ H _ w e fun vs H1 s1 rf => ⟨M, B, ds, w.ext s1, by rw [List.append_nil]; exact rf, hp, fun out po => by
    rw [ho out po]
    exact fun p vs H' s' hn hv rv => q _ H' (s1.trans s') ⟨p, vs, rfl, s1.free hn, hv, rv⟩⟩
theorem jv_call (h : JFs K fl ta env ds) (hp : Pre ds) (ho : ∀ out, Post ds out → out = .val d) (f : flatD d = some v) : JV K (tCall (spD K cl fl r Pre Post) [] E ta) env v := (jd_call h hp fun out po => .inl (ho out po)).toV f
/-- in a def that may raise -/
theorem jd_callSP {p : DL.D → Prop} (h : JFs K fl ta env ds) (hp : Pre ds) (ho : ∀ out, Post ds out → ∃ d, p d ∧ (out = .val d ∨ ∃ es, d = .list es ∧ out = .new es)) : Jd K (tCallS (spD K cl fl r Pre Post) E' ta) env (pP K r p) := fun M B σ H Q w e q =>
  h M B σ H _ w e fun vs H1 s1 rf => ⟨M, B, ds, w.ext s1, rf, hp, fun out po => by
    obtain ⟨d, hd, rfl | ⟨es, rfl, rfl⟩⟩ := ho out po
    · exact fun v H' s' rv => q v H' (s1.trans s') ⟨d, hd, rv⟩
    · exact fun p vs H' s' hn hv rv => q _ H' (s1.trans s') ⟨_, hd, .lst (fun z => (w.ext s1).snT r p z hn) hv ((Keep.less fun _ => .inl).rpA rv)⟩⟩
theorem jd_callS (h : JFs K fl ta env ds) (hp : Pre ds) (ho : ∀ out, Post ds out → out = .val d ∨ ∃ es, d = .list es ∧ out = .new es) : JD K (tCallS (spD K cl fl r Pre Post) E' ta) env r d :=
  (jd_callSP (p := fun x => x = d) h hp fun out po => ⟨d, rfl, ho out po⟩).imp fun _ _ _ _ _ _ _ ⟨d', e, r⟩ => by
    show Rp _ _ _ _ _
    rw [← e]
    exact r
theorem jn_callS (h : JFs K fl ta env ds) (hp : Pre ds) (ho : ∀ out, Post ds out → out = .new es) : JN K (tCallS (spD K cl fl r Pre Post) E' ta) env r es := fun M B σ H Q w e q =>
  h M B σ H _ w e fun vs H1 s1 rf => ⟨M, B, ds, w.ext s1, rf, hp, fun out po => by
    rw [ho out po]
    exact fun p vs H' s' hn hv rv => q _ H' (s1.trans s') ⟨p, vs, rfl, s1.free hn, hv, rv⟩⟩
theorem jv_callS (h : JFs K fl ta env ds) (hp : Pre ds) (ho : ∀ out, Post ds out → out = .val d) (f : flatD d = some v) : JV K (tCallS (spD K cl fl r Pre Post) E' ta) env v := (jd_callS h hp fun out po => .inl (ho out po)).toV f
/-- an expression that raises -/
def Er (C : Ct) (E : XK) (te : TE) (env : List Sl) (c : Value) : Prop := ∀ L σ H Q, GoodL C L env σ H → (∀ H', Same C.H0 H' → E c none H') → te σ H Q
theorem er_call {c : XC} (h : JFs C.K fl ta env ds) (hp : Pre ds) (ho : ∀ out, Post ds out → out = .err c) : Er C E (tCallS (spD C.K cl fl r Pre Post) (fun _ => E) ta) env (.ref (cl c)) := fun L σ H Q g q =>
  h _ _ σ H _ g.w g.ok fun vs H1 s1 rf => ⟨_, _, ds, g.w.ext s1, rf, hp, fun out po => by
    rw [ho out po]
    exact fun H' s' => q H' (((g.b0.trans g.b1).trans s1).trans s')⟩
theorem run_dropE {c : Value} (h : Er C E te env c) (q : ∀ H', Same C.H0 H' → E c none H') : Run C D (tSeq (tDrop te) u) env := fun L σ H g => h L σ H _ g q
theorem run_setE {c : Value} {g : TG} (h : Er C E te env c) (q : ∀ H', Same C.H0 H' → E c none H') : Run C D (tSeq (tAsg te g) u) env := fun L σ H gd => h L σ H _ gd q
theorem run_retE {c : Value} (h : Er C E te env c) (q : ∀ H', Same C.H0 H' → E c none H') : Run C D (tRet te) env := fun L σ H gd => h L σ H _ gd q
theorem run_ifE {c : Value} (h : ∀ L σ H Q, GoodL C L env σ H → (∀ H', Same C.H0 H' → E c none H') → tt σ H Q) (q : ∀ H', Same C.H0 H' → E c none H') : Run C D (tSeq (tIfS tt t1 t2) u) env := fun L σ H gd => h L σ H _ gd q
end
end
/-! ### a def keeps its promise -/
def argEnv (fl : List Bool) (ds : List D) (n : Nat) : List Sl := List.zipWith Sl.val fl ds ++ List.replicate (n - ds.length) .un
theorem argEnv_ok {K : PySem.W.Frag} {M B : As} {H : Hp} : ∀ {fl : List Bool} {vs : List V} {ds : List D}, RpF K M B H fl vs ds → EnvOk K M B H (vs.map some) (List.zipWith Sl.val fl ds)
  | _, _, _, .nil => ⟨rfl, fun i s h => by simp at h⟩
  | _, _, _, .cons h1 h2 => by
    have ih := argEnv_ok h2
    refine ⟨by simp only [List.map_cons, List.zipWith_cons_cons, List.length_cons]; rw [ih.len], fun i s h => ?_⟩
    cases i with
    | zero =>
      simp only [List.zipWith_cons_cons, List.getElem?_cons_zero, Option.some.injEq] at h
      subst h
      exact ⟨_, rfl, h1⟩
    | succ i =>
      simp only [List.zipWith_cons_cons, List.getElem?_cons_succ] at h
      exact ih.sl i s h
theorem start_ok {K : PySem.W.Frag} {M B : As} {H : Hp} {fl : List Bool} {vs : List V} {ds : List D} (N : List Str) (h : RpF K M B H fl vs ds) : EnvOk K M B H (L2.start N vs) (argEnv fl ds N.length) := by
  have a := argEnv_ok h
  have hl := h.len
  have hd := h.lenD
  have hz : (List.zipWith Sl.val fl ds).length = vs.length := by rw [← a.len, List.length_map]
  refine ⟨?_, fun i s hs => ?_⟩
  · unfold L2.start argEnv
    rw [List.length_append, List.length_append, List.length_map, List.length_replicate, List.length_replicate, hz, hl, hd]
  · unfold argEnv at hs
    by_cases hi : i < vs.length
    · rw [List.getElem?_append_left (by rw [hz]; exact hi)] at hs
      have q := a.sl i s hs
      have e : (L2.start N vs)[i]? = (vs.map some)[i]? := by
        unfold L2.start
        rw [List.getElem?_append_left (by rw [List.length_map]; exact hi)]
      rw [e]
      exact q
    · rw [List.getElem?_append_right (by rw [hz]; omega), List.getElem?_replicate] at hs
      split at hs
      · cases hs; trivial
      · cases hs
theorem argEnv_noOwn {fl : List Bool} {ds : List D} {k : Nat} : ∀ (i : Nat) n es, (argEnv fl ds k)[i]? ≠ some (.own n es) := fun i n es h => by
  unfold argEnv at h
  have m := List.mem_of_getElem? h
  rcases List.mem_append.mp m with m | m
  · obtain ⟨j, hj, e⟩ := List.getElem_of_mem m
    rw [List.getElem_zipWith] at e
    cases e
  · have := (List.mem_replicate.mp m).2
    cases this
section
variable {P : Program} {w : World} {K : PySem.W.Frag} {mg : Str → Option Value} {base : Heap}
/-- THE RULE for a def of the text -/
theorem fnD {x qual : Str} {st : Stmt} {f : Addr} {fd : FuncData} {N ps : List Str} {k : Nat} {cl : XC → Addr} {fl : List Bool} {r : Bool} {Pre : List D → Prop} {Post : List D → Out → Prop} (F : Fun K x qual st f fd) (S : FnScope N ps (defScope st)) (hl : fl.length = ps.length)
    (body : ∀ (cdv : Value) (A : Around) (outer : List Env) (s : Shared) (E : XK) (M B : As) (H : Hp) (Q : VK) (ds : List D), Room k (A.deeper (PyProof.Rows.envOfC qual (defScope st) s.heap.objs.size f cdv)) → Pre ds → Wf M B H → (∀ out, Post ds out → OutOk K cl M B r H Q E out) →
      ∃ t, PSs (cxOf (L2.CX P w) P w K mg base N qual (defScope st) f cdv A outer s H E) (defBody st) t ∧ Run ⟨K, M, B, H, H⟩ { nx := fun _ H' => Q .non H', rt := Q } t (argEnv fl ds N.length)) : FnOk P w K mg base (L2.CX P w) (k + 1) f fd ps (spD K cl fl r Pre Post) := by
  refine F.okX S (fun vs H Q E h => ?_) (fun cdv A outer s H vs Q E hr h => ?_)
  · obtain ⟨M, B, ds, _, rf, _⟩ := h
    rw [rf.len, hl]
  · obtain ⟨M, B, ds, wf, rf, hp, ho⟩ := h
    obtain ⟨t, ht, run⟩ := body cdv A outer s E M B H Q ds hr hp wf ho
    refine ⟨t, ht, run (fun _ => False) _ H ⟨Same.refl H, Same.refl H, wf, fun a z => z.elim, ?_, fun i j p n m ds es h1 => absurd h1 (argEnv_noOwn i n ds), fun i n ds p h1 => absurd h1 (argEnv_noOwn i n ds)⟩⟩
    have e1 : (fun a => M a ∨ False) = M := funext fun a => propext ⟨fun z => z.elim id fun y => y.elim, .inl⟩
    have e2 : (fun a => B a ∨ False) = B := funext fun a => propext ⟨fun z => z.elim id fun y => y.elim, .inl⟩
    show EnvOk K (fun a => M a ∨ False) (fun a => B a ∨ False) H _ _
    rw [e1, e2]
    exact start_ok N rf
theorem PS.nox {X : Cx} {st : Stmt} {t : TS} (h : PS X.nox st t) : PS X st t := ⟨fun pins s σ H D I hw =>
  PySem.wpAny_mono (h.run pins s σ H D (I.wish _) hw) (fun _ _ q => q.unwish) fun _ _ z => False.elim z⟩
end
end DL

/-! the layer's rules with the written part by its name -/
namespace DL
open PySem L2
section
variable {X : Cx} {K : PySem.W.Frag}
theorem op_eqK (K : PySem.W.Frag) (hK : X.K = K) (hu : X.A.units + 64 < cLine) : OpR X (compareOp .Eq) (rEqD K) := by subst hK; exact op_eqD hu
theorem op_neK (K : PySem.W.Frag) (hK : X.K = K) (hu : X.A.units + 64 < cLine) : OpR X (compareOp .NotEq) (rNeD K) := by subst hK; exact op_neD hu
theorem ix_K (K : PySem.W.Frag) (hK : X.K = K) : IxR X (rIx K) := by subst hK; exact ix_seq
theorem sl_K (K : PySem.W.Frag) (hK : X.K = K) : SlR X (rSlL K) := by subst hK; exact sl_list
theorem len_K (K : PySem.W.Frag) (hK : X.K = K) : CallR X (.builtin "len") (rLenQ K) := by subst hK; exact call_len_seq
theorem list_K (K : PySem.W.Frag) (hK : X.K = K) : CallR X (.type "list") (rListQ K) := by subst hK; exact call_list_of
theorem tuple_K (K : PySem.W.Frag) (hK : X.K = K) : CallR X (.type "tuple") (rTupQ K) := by subst hK; exact call_tuple_of
theorem isi_K (K : PySem.W.Frag) (hK : X.K = K) : CallR X (.builtin "isinstance") (rIsi K) := by subst hK; exact call_isi
theorem all_K (K : PySem.W.Frag) (hK : X.K = K) (hc : X.calm = true) : CallR X (.builtin "all") (rAll K) := by subst hK; exact cr_all hc
theorem sum_K (K : PySem.W.Frag) (hK : X.K = K) (hc : X.calm = true) : CallR X (.builtin "sum") (rSum K) := by subst hK; exact cr_sum hc
theorem sorted_K (K : PySem.W.Frag) (hK : X.K = K) : CallR X (.builtin "sorted") (rSorted K) := by subst hK; exact cr_sorted
theorem list_pi (K : PySem.W.Frag) (hK : X.K = K) {tg l : Expr} {tl : TE} (hl : PE X l tl) : PI X tg l (iList K tl) := by subst hK; exact pi_list hl
theorem tup_pi (K : PySem.W.Frag) (hK : X.K = K) {tg l : Expr} {tl : TE} (hl : PE X l tl) : PI X tg l (iTup K tl) := by subst hK; exact pi_tup hl
theorem pgt_K (K : PySem.W.Frag) (hK : X.K = K) {es : List Expr} {k : Nat} {t : TGs} {n : Nat} {pos : Pos} (hc : X.calm = true) (h : PGs X es t)
    (hn : (assignEach es X.env).length = n := by rfl) (hst : (assignEach es X.env).findIdx? (·.1) = none := by rfl) : PG X (.Tuple es k pos) (gTup K n t) := by subst hK; exact pg_tup hc h hn hst
theorem inL_K (K : PySem.W.Frag) (hK : X.K = K) (hu : X.A.units + 65 < cLine) : OpR X (compareOp .In) (rInD K) := by subst hK; exact op_inD hu
theorem ninL_K (K : PySem.W.Frag) (hK : X.K = K) (hu : X.A.units + 65 < cLine) : OpR X (compareOp .NotIn) (rNotInD K) := by subst hK; exact op_notInD hu
theorem inF_K (K : PySem.W.Frag) (hK : X.K = K) : OpR X (compareOp .In) (rIn K false) := by subst hK; exact op_in_seq
theorem ninF_K (K : PySem.W.Frag) (hK : X.K = K) : OpR X (compareOp .NotIn) (rIn K true) := by subst hK; exact op_notIn_seq
theorem index_K (K : PySem.W.Frag) (hK : X.K = K) : MtR X "list.index" (rIndex K) := by subst hK; exact mt_index
theorem zip_pi (K : PySem.W.Frag) (hK : X.K = K) {e e2 : Expr} {ta : TA} {p pos tpos : Pos} {elts : List Expr} {kk : Nat} (hg : Gl X "zip") (hm : X.mg "zip" = none) (ha : PA X [e, e2] ta)
    (hs : starEach [e, e2] X.env = (false, eval e X.env) :: starEach [e2] X.env := by rfl) (hpl : (backTo pos (starEach [e2] X.env)).any (·.1) = false := by rfl) :
    PI X (.Tuple elts kk tpos) (.Call (.Name "zip" p) [e, e2] [] pos) (iZip K ta) := by subst hK; exact pi_zip hg hm ha hs hpl
theorem rev_K (K : PySem.W.Frag) (hK : X.K = K) {e : Expr} {te : TE} {k : Nat} {p1 p2 p3 pos : Pos} (he : PE X e te) : PE X (.Subscript e (.Slice none none (some (.UnaryOp .USub (.Constant (.int 1) k p1) p2)) p3) pos) (tRevL K te) := by subst hK; exact pe_revL he
variable {o e : Expr} {es : List Expr} {to : TE} {t : TA} {name : Str} {apos cpos : Pos} {T id : String} {r : V → List V → Hp → VK → Prop}
theorem bm_K (K : PySem.W.Frag) (hK : X.K = K) (pa : PlainAttrs T) (slot : Slot T name id) (hty : typeOf (.builtin id) = pure (.type "method_descriptor")) (hm : MtR X id r) (ho : PE X o to) (ha : PA X (e :: es) t)
    (hbase : attributeBase o name X.env (eval o X.env) = eval o X.env := by rfl)
    (hfew : ((backTo cpos (starEach (e :: es) X.env)).all (fun x => !x.1) && (backToKw cpos (keywordEach [] X.env)).all (fun x => x.1.isSome)
      && decide ((e :: es).length + ([] : List Keyword).length + (if ([] : List Keyword).isEmpty then 0 else 1) < 30)) = true := by rfl)
    (hline : (apos.endLine == cpos.line) = true := by rfl) (hs : starEach (e :: es) X.env = (false, eval e X.env) :: starEach es X.env := by rfl) (hplain : (backTo cpos (starEach es X.env)).any (·.1) = false := by rfl) :
    PE X (.Call (.Attribute o name apos) (e :: es) [] cpos) (tBM K T r to t) := by subst hK; exact pe_bm pa slot hty hm ho ha hbase hfew hline hs hplain
end
end DL

namespace DL
open PySem L2
theorem kb_none_int : kitB "NoneType" "int" = some false := by decide +kernel
theorem kb_none_bool : kitB "NoneType" "bool" = some false := by decide +kernel
theorem kb_none_list : kitB "NoneType" "list" = some false := by decide +kernel
theorem kb_none_tuple : kitB "NoneType" "tuple" = some false := by decide +kernel
theorem kb_bool_int : kitB "bool" "int" = some true := by decide +kernel
theorem kb_bool_bool : kitB "bool" "bool" = some true := by decide +kernel
theorem kb_bool_list : kitB "bool" "list" = some false := by decide +kernel
theorem kb_bool_tuple : kitB "bool" "tuple" = some false := by decide +kernel
theorem kb_int_int : kitB "int" "int" = some true := by decide +kernel
theorem kb_int_bool : kitB "int" "bool" = some false := by decide +kernel
theorem kb_int_list : kitB "int" "list" = some false := by decide +kernel
theorem kb_int_tuple : kitB "int" "tuple" = some false := by decide +kernel
theorem kb_str_int : kitB "str" "int" = some false := by decide +kernel
theorem kb_str_bool : kitB "str" "bool" = some false := by decide +kernel
theorem kb_str_list : kitB "str" "list" = some false := by decide +kernel
theorem kb_str_tuple : kitB "str" "tuple" = some false := by decide +kernel
theorem kb_list_int : kitB "list" "int" = some false := by decide +kernel
theorem kb_list_bool : kitB "list" "bool" = some false := by decide +kernel
theorem kb_list_list : kitB "list" "list" = some true := by decide +kernel
theorem kb_list_tuple : kitB "list" "tuple" = some false := by decide +kernel
theorem kb_tuple_int : kitB "tuple" "int" = some false := by decide +kernel
theorem kb_tuple_bool : kitB "tuple" "bool" = some false := by decide +kernel
theorem kb_tuple_list : kitB "tuple" "list" = some false := by decide +kernel
theorem kb_tuple_tuple : kitB "tuple" "tuple" = some true := by decide +kernel
theorem kb_dict_int : kitB "dict" "int" = some false := by decide +kernel
theorem kb_dict_bool : kitB "dict" "bool" = some false := by decide +kernel
theorem kb_dict_list : kitB "dict" "list" = some false := by decide +kernel
theorem kb_dict_tuple : kitB "dict" "tuple" = some false := by decide +kernel
mutual
/-- data of a script's making: no frozen script, no dict but the empty one -/
def pln : D → Bool
  | .list ds => plns ds
  | .tuple ds => plns ds
  | .dict kvs => kvs.isEmpty
  | _ => true
def plns : List D → Bool
  | [] => true
  | d :: ds => pln d && plns ds
end
theorem pln_scr {d : D} (h : pln d = true) : isScr d = false := by
  cases d with
  | dict kvs => cases kvs with
    | nil => rfl
    | cons x y => simp [pln] at h
  | _ => rfl
theorem plns_mem : ∀ {ds : List D}, plns ds = true → ∀ d, d ∈ ds → pln d = true
  | [], _, _, h => by cases h
  | e :: ds, h, d, hd => by
    simp only [plns, Bool.and_eq_true] at h
    rcases List.mem_cons.mp hd with rfl | hd
    · exact h.1
    · exact plns_mem h.2 d hd
theorem plns_of : ∀ {ds : List D}, (∀ d, d ∈ ds → pln d = true) → plns ds = true
  | [], _ => rfl
  | e :: ds, h => by
    simp only [plns, Bool.and_eq_true]
    exact ⟨h e List.mem_cons_self, plns_of fun d hd => h d (List.mem_cons_of_mem _ hd)⟩
end DL
namespace DL
open PySem L2 TT
def tieD (t : Tie) : D := .tuple [natD t.1, natD t.2]
theorem marks_len (n : Nat) : ∀ (ts : List Tie) (m : List Nat), m.length = n → (ts.foldl mstep m).length = n
  | [], m, h => h
  | t :: ts, m, h => marks_len n ts (mstep m t) (by unfold mstep; rw [List.length_map]; exact h)
theorem marks_length (n : Nat) (ts : List Tie) : (marks n ts).length = n := marks_len n ts _ List.length_range
theorem marks_take {n : Nat} {ts : List Tie} {k : Nat} {x : Tie} (h : ts[k]? = some x) : marks n (ts.take (k + 1)) = mstep (marks n (ts.take k)) x := by
  unfold marks
  rw [List.take_add_one, h, List.foldl_append]
  rfl
end DL

/-! sorted(set(xs)) of a list of ints -/
namespace DL
open PySem PySem.Spec PyProof.Rows L2
section
variable {P : Program} {w : World} {A : Around} {E : Value → Shared → Prop} {s : Shared}
/-- the set as it is made -/
abbrev setNew (w : World) : Obj := { cls := .type "set", dict := none, data := .set #[] 0 (.fresh 0 0 (!w.params.followText "set-order")) }
abbrev heapS (w : World) (s : Shared) : Heap := s.heap.push (setNew w)
/-- what the filling leaves -/
def SetDone (w : World) (s : Shared) (ns : List Int) (r : Value) (t : Shared) : Prop :=
  r = .none ∧ ∃ (g : Heap) (tk c : Nat), t = { s with heap := g, toks := tk } ∧ SetR w g s.heap.objs.size (fun j => decide (j ∈ ns)) c ∧ c ≤ ns.length ∧ ∀ b o, s.heap.get? b = some o → g.get? b = some o
theorem set_fill {l : Addr} {its : Array Value} (ns : List Int) (hh : A.handled = none) (hl : s.heap.IsList l its) (hi : IntsAre its.toList ns) (hb : ns.length + 1 < scanBound) :
    codeAny (model P w) A (.call (.builtin "set.__init__") ⟨[.ref s.heap.objs.size, .ref l], []⟩) (wants (SetDone w s ns) E) { s with heap := heapS w s } := by
  have sz : its.size = ns.length := (Array.length_toList (xs := its)).symm.trans (IntsAre.length hi)
  have at0 : (heapS w s).get? s.heap.objs.size = some (setNew w) := Heap.get?_push_size _ rfl
  have ty0 : Shared.TypeIs { s with heap := heapS w s } (.ref s.heap.objs.size) "set" := ⟨_, at0, rfl⟩
  refine codeAny_call_builtin F.called_set.init.plain F.entry_set_init (check_set_init_1 ty0 ?_)
  obtain ⟨⟨oc, odt, oda, osl⟩, ho, hc, nn, hd⟩ := hl
  simp only at hc hd
  subst hc; subst hd
  have at1 : (heapS w s).get? l = some { cls := .type "list", dict := odt, data := .seq its nn, slots := osl } := Heap.get?_push_of_some _ ho
  have f1 := F.sub_list_set
  have f2 := F.sub_list_frozenset
  have f3 : (Value.type "list" == Value.type "dict") = false := by decide
  have isl : (heapS w s).IsList l its := ⟨_, at1, rfl, nn, rfl⟩
  unfold Builtin.«set.__init__» noKeywords Builtin.Frozenset.updateFrom
  generalize hPI : pyIter = PI
  wp_walk
  subst hPI
  refine wpAny_pyIter_list isl (wpAny_bind (wpAny_runValue ?_))
  have l0 : l < s.heap.objs.size := Heap.lt_size ho
  have hin : A.in1.in1.handled = none := by simp [hh]
  have szS : (heapS w s).objs.size = s.heap.objs.size + 1 := Heap.size_push ..
  have l1 : l ≠ (heapS w s).objs.size := by rw [szS]; exact Nat.ne_of_lt (Nat.lt_succ_of_lt l0)
  have out : s.heap.objs.size ∉ [(heapS w s).objs.size, l] := fun z => by
    rcases List.mem_cons.mp z with z | z
    · rw [szS] at z; exact Nat.ne_of_lt (Nat.lt_succ_self _) z
    · exact Nat.ne_of_gt l0 (List.mem_singleton.mp z)
  have val : ∀ (i : Nat) (v : Value), its[i]? = some v → ∃ k t, ns[i]? = some k ∧ v = .int k t := fun i v hv => by
    have lt : i < ns.length := by rw [← sz]; exact (Array.getElem?_eq_some_iff.mp hv).1
    obtain ⟨t, e⟩ := IntsAre.int_at hi i v (by rw [Array.getElem?_toList]; exact hv)
    exact ⟨ns[i], t, List.getElem?_eq_getElem lt, by rw [e, List.getD_eq_getElem?_getD, List.getElem?_eq_getElem lt]; rfl⟩
  have it0 : ((heapS w s).push { cls := .type "list_iterator", data := .fields #[.ref l, .int 0 0] }).get? s.heap.objs.size = some (setNew w) := Heap.get?_push_of_some _ at0
  refine set_update_ints ((Walks.list hin _ l l1 its).toS) s.heap.objs.size out ns sz hb val (its.size - 0) 0 _ (by omega) (Nat.zero_le _) ?hW0 ?hS0 ?hR
  case hW0 => exact ⟨⟨_, Heap.get?_push_size _ rfl, rfl, rfl⟩, isl.push _⟩
  case hS0 => exact ⟨0, Nat.le_refl 0, setR_new_at it0⟩
  rintro ⟨g, gs, dr, tk, os⟩ c mv hc' hS
  obtain rfl : gs = s.gens := mv.gens
  obtain rfl : dr = s.drawn := mv.drawn
  obtain rfl : os = s.os := mv.os
  show wpAny _ _ _ _ _ _
  refine wpAny_pure ?_
  show wpAny _ _ (ret Value.none) _ _ _
  refine wpAny_pure ⟨rfl, g, tk, c, rfl, hS, by rw [← sz]; exact hc', fun b o e => ?_⟩
  have b0 : b < s.heap.objs.size := Heap.lt_size e
  refine mv.heap b o (fun z => ?_) (Heap.get?_push_of_some _ (Heap.get?_push_of_some _ e))
  rcases List.mem_cons.mp z with z | z
  · exact Nat.ne_of_lt b0 z
  · have z' : b = (heapS w s).objs.size := List.mem_singleton.mp z
    rw [szS] at z'
    exact Nat.ne_of_lt (Nat.lt_succ_of_lt b0) z'
theorem set_of_ints {l : Addr} {its : Array Value} (ns : List Int) {Q : Value → Shared → Prop} (hh : A.handled = none) (hl : s.heap.IsList l its) (hi : IntsAre its.toList ns) (hb : ns.length + 1 < scanBound)
    (q : ∀ (g : Heap) (tk c : Nat), SetR w g s.heap.objs.size (fun j => decide (j ∈ ns)) c → c ≤ ns.length → (∀ b o, s.heap.get? b = some o → g.get? b = some o) → Q (.ref s.heap.objs.size) { s with heap := g, toks := tk }) :
    wpAny (model P w) A (call (.type "set") [.ref l]) Q E s := by
  obtain ⟨cc, tl, mro⟩ := F.called_set.mro
  have m1 := F.called_set.made
  have m2 := F.called_set.sub
  refine wpAny_call (codeAny_of_tree ?_)
  show wpAny _ _ (callAny (.type "set") _) _ _ _
  refine wpAny_pure ⟨Code.quiet_builtin _ (by decide +kernel), codeAny_builtin F.entry_type_call ?_⟩
  rw [Around.under_plain (weight_type_call_type "set" [.ref l] []) rfl]
  have m3 := F.called_set.notType
  have m4 := F.called_set.canCreate
  have m5 := F.typeCall_set_1 (.ref l)
  repeat (any_goals (first | assumption | wp_step))
  refine codeAny_mono (code_set_led1 (.ref l) (E := E) (Q₁ := fun obj t => obj = .ref s.heap.objs.size ∧ t = { s with heap := heapS w s }) ⟨rfl, rfl⟩) fun r t hr => ?_
  cases r with
  | error e => exact hr
  | ok fl =>
    cases fl with
    | ret obj =>
      obtain ⟨rfl, rfl⟩ := hr
      have at0 : (heapS w s).get? s.heap.objs.size = some (setNew w) := Heap.get?_push_size _ rfl
      have ty0 : Shared.TypeIs { s with heap := heapS w s } (.ref s.heap.objs.size) "set" := ⟨_, at0, rfl⟩
      have i1 := F.called_set.init.lookup
      have i2 := F.called_set.init.bind (.ref s.heap.objs.size)
      repeat (any_goals (first | assumption | wp_step))
      refine codeAny_mono (set_fill (E := E) ns (by simp [hh]) hl hi hb) fun r2 t2 h2 => ?_
      cases r2 with
      | error e => exact h2
      | ok f2 =>
        cases f2 with
        | ret r =>
          obtain ⟨rfl, g, tk, c, rfl, h3, h4, h5⟩ := h2
          repeat (any_goals (first | assumption | wp_step))
          exact q _ _ _ h3 h4 h5
        | _ => exact h2.elim
    | _ => exact hr.elim
end
def rSetI (K : PySem.W.Frag) (w : World) : List V → Hp → VK → Prop := fun vs H Q => ∃ (a : Addr) (ns : List Int), vs = [V.ref a] ∧ SqL K H a (ns.map V.int) ∧ ns.length < 64 ∧
  ∀ (p : Addr) (c : Nat), H p = none → c ≤ ns.length → Q (.ref p) (upd H p (SetO w p (fun j => decide (j ∈ ns)) c))
theorem cr_setI {X : Cx} (hc : X.calm = true) : CallR X (.type "set") (rSetI X.K X.w) := by
  intro pins s σ H vs us Q I r h
  obtain ⟨a, ns, rfl, hs, h64, q⟩ := h
  obtain ⟨its, rv, pl, _⟩ := I.list hs
  rw [Vals.ref1 r]
  refine set_of_ints ns (I.ok.hd hc) pl.isList (by simpa using rv.ints) (by unfold scanBound; omega) fun g tk c R hc' k => ?_
  exact ⟨.ref s.heap.objs.size, _, I.laid (t' := tk) k (Nat.le_refl _) (setO_new R), rfl, q _ c (I.hok.fresh (Nat.le_refl _)) hc'⟩
theorem set_K (K : PySem.W.Frag) (w : World) {X : Cx} (hK : X.K = K) (hW : X.w = w) (hc : X.calm = true) : CallR X (.type "set") (rSetI K w) := by subst hK hW; exact cr_setI hc
theorem sortS_K (w : World) {X : Cx} (hW : X.w = w) (hc : X.calm = true) : CallR X (.builtin "sorted") (rSortedSet w) := by subst hW; exact cr_sortedSet hc
/-- two rising lists of the same members -/
theorem rise_eq {xs ys : List Int} (h1 : xs.Pairwise (· < ·)) (h2 : ys.Pairwise (· < ·)) (h : ∀ k, k ∈ xs ↔ k ∈ ys) : xs = ys := by
  have n1 : xs.Nodup := h1.imp fun p => Int.ne_of_lt p
  have n2 : ys.Nodup := h2.imp fun p => Int.ne_of_lt p
  exact ((List.perm_ext_iff_of_nodup n1 n2).mpr h).eq_of_pairwise (fun a b _ _ p q => absurd p (Int.lt_asymm q)) h1 h2
theorem jn_sortSet {K : PySem.W.Frag} {w : World} {env : List Sl} {ta : TE} {n m : Bool} {ns ms : List Int} (ha : JS K ta env n (ns.map PyData.int)) (hz : ns.length < 64) (h1 : ms.Pairwise (· < ·)) (h2 : ∀ k, k ∈ ms ↔ k ∈ ns) :
    JN K (tCB (rSortedSet w) (tCons (tCB (rSetI K w) (tCons ta tNil)) tNil)) env m (ms.map PyData.int) := fun M B σ H Q wf e q =>
  ha M B σ H _ wf e fun x H1 s1 ⟨a, vs, e1, e2, e3⟩ => by
    rw [e1]
    refine ⟨a, ns, rfl, by rw [← RpA.ints_inv e3]; exact SqL.of e2, hz, fun p c hp hc => ⟨p, _, c, rfl, upd_same, by omega, fun ks r rise mem _ hr => ?_⟩⟩
    have ek : ks = ms := rise_eq rise h1 fun k => by rw [mem k, decide_eq_true_iff, h2 k]
    rw [ek]
    exact q _ _ ((s1.trans (same_upd hp)).trans (same_upd hr)) (jn_new wf (s1.trans (same_upd hp)) hr (RpA.ints ms))
end DL

namespace DL
open PySem L2
section
variable {C : Ct} {env : List Sl} {n : Bool} {d : D} {ds es fs : List D} {i : Nat} {te : TE} {D : Ends} {u : TS}
theorem run_appendE (hi : env[i]? = some (.own n ds)) (h : JD C.K te env n d) (hz : ds.length < 100000) (k : Run C D u (env.set i (.own n es))) (e : ds ++ [d] = es) : Run C D (tSeq (tDrop (tBM C.K "list" rAppend (tVar i) (tCons te tNil))) u) env := by
  subst e
  exact run_append hi h hz k
theorem run_extendE (hi : env[i]? = some (.own n ds)) (h : JS C.K te env n es) (hz : ds.length + es.length ≤ 100000) (k : Run C D u (env.set i (.own n fs))) (e : ds ++ es = fs) : Run C D (tSeq (tDrop (tBM C.K "list" rExtend (tVar i) (tCons te tNil))) u) env := by
  subst e
  exact run_extend hi h hz k
theorem run_put2 {tk1 tk2 : TE} {z1 z2 : Int} {d1 d2 : DL.D} (hi : env[i]? = some (.own n ds)) (h : JU C.K te env n [d1, d2]) (hk1 : JV C.K tk1 env (.int z1)) {j1 j2 : Nat} (hz1 : z1 = (j1 : Int)) (hj1 : j1 < ds.length)
    (hk2 : JV C.K tk2 (env.set i (.own n (ds.set j1 d1))) (.int z2)) (hz2 : z2 = (j2 : Int)) (hj2 : j2 < ds.length) (k : Run C D u (env.set i (.own n ((ds.set j1 d1).set j2 d2)))) :
    Run C D (tSeq (tAsg te (gTup C.K 2 (gCons (gSub (tVar i) tk1 rSetL) (gCons (gSub (tVar i) tk2 rSetL) gNil)))) u) env := fun L σ H g => by
  refine g.eval h fun v H1 s1 g1 ⟨a, vs, e1, e2, e3⟩ => ?_
  cases e3 with
  | cons r1 e3 =>
    cases e3 with
    | cons r2 e3 =>
      cases e3
      rename_i v1 v2
      refine ⟨a, _, e1, SqT.of e2, rfl, v1, _, rfl, ?_⟩
      obtain ⟨p, us, hs, mp, q3, r⟩ := g1.ok.sl i _ hi
      have il : i < env.length := (List.getElem?_eq_some_iff.mp hi).1
      refine ⟨.ref p, hs, ?_⟩
      refine g1.eval hk1 fun w H2 s2 g2 ew => ?_
      have ew' : w = V.int z1 := ew
      rw [ew', hz1]
      have kp : Keep (Sn n (fun a => C.M a ∨ L a) (fun a => C.B a ∨ L a)) (Sn n (fun a => C.M a ∨ L a) (fun a => C.B a ∨ L a)) H2 (upd H2 p (.lst (us.set j1 v1))) := .mut ((sn_or n _ _ _ _).mpr (.inr (g1.ol i n ds p hi hs))) (s2 _ _ q3)
      have g3 := g2.mutate hi hs (RpA.set ((Keep.ext s2).rp r1) j1 ((Keep.ext s2).rpA r))
      have r2' := kp.rp ((Keep.ext s2).rp r2)
      have hl : us.length = ds.length := r.length
      refine ⟨p, us, (j1 : Int), j1, rfl, rfl, s2 _ _ q3, ?_, ?_⟩
      · unfold ixN
        rw [if_pos (by omega), if_pos (by omega)]
        simp
      · refine ⟨v2, _, rfl, .ref p, hs, ?_⟩
        refine g3.eval hk2 fun w' H4 s4 g4 ew => ?_
        have ew' : w' = V.int z2 := ew
        rw [ew', hz2]
        have hi' : (env.set i (.own n (ds.set j1 d1)))[i]? = some (.own n (ds.set j1 d1)) := List.getElem?_set_self il
        obtain ⟨p', us', hs', mp', q3', r'⟩ := g4.ok.sl i _ hi'
        rw [hs] at hs'
        cases hs'
        refine ⟨p, us', (j2 : Int), j2, rfl, rfl, q3', ?_, ?_⟩
        · have hl' : us'.length = ds.length := by rw [r'.length, List.length_set]
          unfold ixN
          rw [if_pos (by omega), if_pos (by omega)]
          simp
        · have fin := g4.mutate hi' hs (RpA.set ((Keep.ext s4).rp r2') j2 r')
          rw [List.set_set] at fin
          exact ⟨rfl, k L σ _ fin⟩
def ErA (C : Ct) (E : XK) (ta : TA) (env : List Sl) (c : Value) : Prop := ∀ L σ H Q, GoodL C L env σ H → (∀ H', Same C.H0 H' → E c none H') → ta σ H Q
theorem er_first {E : XK} {c : Value} {ta : TA} (h : Er C E te env c) : ErA C E (tCons te ta) env c := fun L σ H Q g q => h L σ H _ g q
theorem er_later {E : XK} {c : Value} {ta : TA} {P : Po} (h1 : Jd C.K te env P) (h : ErA C E ta env c) : ErA C E (tCons te ta) env c := fun L σ H Q g q => g.eval h1 fun v H' s g' _ => h L σ H' _ g' q
theorem er_args {E : XK} {E' : L2.St → XK} {c : Value} {ta : TA} {sp : Sp} (h : ErA C E ta env c) : Er C E (tCallS sp E' ta) env c := fun L σ H Q g q => h L σ H _ g q
theorem er_cb {E : XK} {c : Value} {ta : TA} {r : List V → Hp → VK → Prop} (h : ErA C E ta env c) : Er C E (tCB r ta) env c := fun L σ H Q g q => h L σ H _ g q
theorem er_sl {E : XK} {c : Value} {r : V → Option Int → Option Int → Hp → VK → Prop} {lo hi : TO} (h : Er C E te env c) : Er C E (tSl r te lo hi) env c := fun L σ H Q g q => h L σ H _ g q
theorem er_lcL {E : XK} {c : Value} {g : TG} {tt : L2.TT} {tb : TE} {vs : List Nat} (h : Er C E te env c) : Er C E (tLc (iList C.K te) g tt tb vs) env c := fun L σ H Q gd q => h L σ H _ gd q
theorem er_op {E : XK} {c : Value} {r : R2} {tb : TE} (h : Er C E te env c) : Er C E (tOp r te tb) env c := fun L σ H Q g q => h L σ H _ g q
theorem er_test {E : XK} {c : Value} (h : Er C E te env c) : ∀ L σ H Q, GoodL C L env σ H → (∀ H', Same C.H0 H' → E c none H') → tTest te σ H Q := fun L σ H Q g q => h L σ H _ g q
def pNP (K : PySem.W.Frag) (n : Bool) (p : List DL.D → Prop) : Po := fun M B H x H' => ∃ es, p es ∧ pN K n es M B H x H'
theorem jn_callSP {K : PySem.W.Frag} {ta : TA} {fl : List Bool} {r : Bool} {cl : XC → Addr} {Pre : List DL.D → Prop} {Post : List DL.D → Out → Prop} {E' : L2.St → XK} {p : List DL.D → Prop} (h : JFs K fl ta env ds) (hp : Pre ds) (ho : ∀ out, Post ds out → ∃ es, p es ∧ out = .new es) : Jd K (tCallS (spD K cl fl r Pre Post) E' ta) env (pNP K r p) := fun M B σ H Q w e q =>
  h M B σ H _ w e fun vs H1 s1 rf => ⟨M, B, ds, w.ext s1, rf, hp, fun out po => by
    obtain ⟨es, pe, eo⟩ := ho out po
    rw [eo]
    exact fun p vs H' s' hn hv rv => q _ H' (s1.trans s') ⟨es, pe, p, vs, rfl, s1.free hn, hv, rv⟩⟩
theorem jn_callP {K : PySem.W.Frag} {ta : TA} {fl : List Bool} {r : Bool} {cl : XC → Addr} {Pre : List DL.D → Prop} {Post : List DL.D → Out → Prop} {E : XK} {p : List DL.D → Prop} (h : JFs K fl ta env ds) (hp : Pre ds) (ho : ∀ out, Post ds out → ∃ es, p es ∧ out = .new es) : Jd K (tCall (spD K cl fl r Pre Post) [] E ta) env (pNP K r p) := fun M B σ H Q w e q =>
  h M B σ H _ w e fun vs H1 s1 rf => ⟨M, B, ds, w.ext s1, by rw [List.append_nil]; exact rf, hp, fun out po => by
    obtain ⟨es, pe, eo⟩ := ho out po
    rw [eo]
    exact fun p vs H' s' hn hv rv => q _ H' (s1.trans s') ⟨es, pe, p, vs, rfl, s1.free hn, hv, rv⟩⟩
theorem run_setNP {p : List DL.D → Prop} (h : Jd C.K te env (pNP C.K n p)) (k : ∀ es, p es → Run C D u (env.set i (.own n es))) : Run C D (tSeq (tAsg te (gName i)) u) env := fun L σ H g =>
  g.eval h fun v H' s g' ⟨es, pe, q, vs, e1, e2, e3, e4⟩ => by
    rw [e1]
    exact k es pe _ _ _ (g.setOwn s e2 e3 e4)
theorem run_ifJ {tt : L2.TT} {t1 t2 : TS} {b : Bool} (J : List Sl → Prop) (h : Jt C.K tt env b) (k : ∀ env', J env' → Run C D u env') (k1 : (∀ env', J env' → Run C D u env') → b = true → Run C D (tSeq t1 u) env)
    (k2 : (∀ env', J env' → Run C D u env') → b = false → Run C D (tSeq t2 u) env) : Run C D (tSeq (tIfS tt t1 t2) u) env := run_if h (k1 k) (k2 k)
end
section
variable {K : PySem.W.Frag} {env : List Sl} {te : TE} {v : V}
theorem Jd.intsN {n m : Bool} {ns : List Int} (h : JN K te env n (ns.map PyData.int)) : JN K te env m (ns.map PyData.int) := h.imp fun M B H x H' w s ⟨a, vs, h1, h2, h3, h4⟩ => ⟨a, vs, h1, h2, h3, by
  rw [RpA.ints_inv h4]
  exact RpA.ints ns⟩
theorem jv_isN (h : JV K te env v) : JV K (tIsN te) env (.bl (decide (v = .non))) := fun M B σ H Q w e q => h M B σ H _ w e fun x H1 s1 p1 => by
  have e1 : x = v := p1
  rw [e1]
  exact q _ _ s1 rfl
theorem jv_notN (h : JV K te env v) : JV K (tNotN te) env (.bl (!decide (v = .non))) := fun M B σ H Q w e q => h M B σ H _ w e fun x H1 s1 p1 => by
  have e1 : x = v := p1
  rw [e1]
  exact q _ _ s1 rfl
/-! the script -/
theorem jv_lenScr {n : Bool} {ns : List Int} (ha : JD K te env n (scrD ns)) : JV K (tCB (rLenQ K) (tCons te tNil)) env (.int (ns.length : Int)) := jd_cb1 ha fun _ _ _ _ H1 _ _ p1 Q q => by
  obtain ⟨a, rfl, h⟩ := Rp.scr_inv p1 rfl
  exact ⟨a, _, rfl, .inl h.seq, q _ _ (Same.refl _) (by rw [List.length_map]; rfl)⟩
theorem jv_ixScr {tb : TE} {n : Bool} {ns : List Int} {k : Int} (j : Nat) (ha : JD K te env n (scrD ns)) (hb : JV K tb env (.int k)) (hk : k = (j : Int)) (hj : j < ns.length) : JV K (tOp (rIx K) te tb) env (.int (ns.getD j 0)) :=
  Jd.op ha hb fun M B H x y H1 H2 wf s1 s2 p1 p2 Q q => by
    obtain ⟨a, rfl, h⟩ := Rp.scr_inv ((Keep.ext s2).rp p1) rfl
    have e2 : y = .int k := p2
    exact .inl ⟨a, _, k, _, rfl, e2, h.seq, atI_map V.int ns 0 hk hj, q _ _ (Same.refl _) rfl⟩
structure ScrOk (ns : List Int) : Prop where
  len : ns.length ≤ 63
  bits : ∀ z, z ∈ ns → z.natAbs.log2 ≤ 1048576
/-- the script's number at a place, mixed -/
def cellf (ns : List Int) (k : Nat) : Int := ns.getD k 0
def mixf (ns : List Int) (k : Nat) : Nat := ((cellf ns k * 48271 + 7919 * (k : Int) * (k : Int)) % 1000003).toNat
theorem mixf_eq (ns : List Int) (k : Nat) : (cellf ns k * 48271 + 7919 * (k : Int) * (k : Int)) % 1000003 = (mixf ns k : Int) := by
  unfold mixf
  omega
theorem mixf_lt (ns : List Int) (k : Nat) : mixf ns k < 1000003 := by
  unfold mixf
  omega
theorem ScrOk.cell {ns : List Int} (h : ScrOk ns) (k : Nat) : (cellf ns k).natAbs.log2 ≤ 1048576 := by
  unfold cellf
  rw [List.getD_eq_getElem?_getD]
  by_cases c : k < ns.length
  · rw [List.getElem?_eq_getElem c]
    exact h.bits _ (List.getElem_mem c)
  · rw [List.getElem?_eq_none (by omega)]
    exact Nat.zero_le _
theorem cmul64 {i j : Int} (h1 : i.natAbs < 2 ^ 200) (h2 : j.natAbs < 2 ^ 200) : CMulB i j := cmulWB (wide_mul h1 h2 (by decide) (by decide) (by decide))
theorem cmulS {i : Int} (h1 : i.natAbs.log2 ≤ 1048576) : CMulB i 48271 := Nat.lt_of_le_of_lt (Nat.add_le_add_right h1 _) (by decide)
theorem jv_mulS {ta tb : TE} {j k : Int} (ha : JV K ta env (.int j)) (hb : JV K tb env (.int k)) (h1 : j.natAbs < 2 ^ 200) (h2 : k.natAbs < 2 ^ 200) : JV K (tOp rMulD ta tb) env (.int (j * k)) := jv_mulW ha hb (cmul64 h1 h2)
end
/-! data of ints, lists and tuples -/
mutual
def nd : D → Bool
  | .int _ => true
  | .list xs => nds xs
  | .tuple xs => nds xs
  | .none | .bool _ | .str _ | .dict _ => false
def nds : List D → Bool
  | [] => true
  | x :: xs => nd x && nds xs
end
mutual
theorem nd_lay : ∀ {d : D}, nd d = true → d.canLay0 = true
  | .int _, _ => rfl
  | .list xs, h => by simp only [nd] at h; simp only [PyData.canLay0]; exact nds_lay h
  | .tuple xs, h => by simp only [nd] at h; simp only [PyData.canLay0]; exact nds_lay h
  | .none, h => by simp [nd] at h
  | .bool _, h => by simp [nd] at h
  | .str _, h => by simp [nd] at h
  | .dict _, h => by simp [nd] at h
theorem nds_lay : ∀ {ds : List D}, nds ds = true → PyData.canLayAll0 ds = true
  | [], _ => rfl
  | x :: xs, h => by
    simp only [nds, Bool.and_eq_true] at h
    simp only [PyData.canLayAll0, Bool.and_eq_true]
    exact ⟨nd_lay h.1, nds_lay h.2⟩
end
mutual
theorem nd_eqv : ∀ {d e : D}, nd d = true → nd e = true → PyData.eqv d e = true → d = e
  | .int i, .int j, _, _, h => by simp only [PyData.eqv, beq_iff_eq] at h; rw [h]
  | .list xs, .list ys, h1, h2, h => by
    simp only [nd] at h1 h2
    simp only [PyData.eqv] at h
    rw [nds_eqv h1 h2 h]
  | .tuple xs, .tuple ys, h1, h2, h => by
    simp only [nd] at h1 h2
    simp only [PyData.eqv] at h
    rw [nds_eqv h1 h2 h]
  | .int _, .list _, _, _, h => by simp [PyData.eqv] at h
  | .int _, .tuple _, _, _, h => by simp [PyData.eqv] at h
  | .list _, .int _, _, _, h => by simp [PyData.eqv] at h
  | .list _, .tuple _, _, _, h => by simp [PyData.eqv] at h
  | .tuple _, .int _, _, _, h => by simp [PyData.eqv] at h
  | .tuple _, .list _, _, _, h => by simp [PyData.eqv] at h
  | .none, _, h, _, _ => by simp [nd] at h
  | .bool _, _, h, _, _ => by simp [nd] at h
  | .str _, _, h, _, _ => by simp [nd] at h
  | .dict _, _, h, _, _ => by simp [nd] at h
  | _, .none, _, h, _ => by simp [nd] at h
  | _, .bool _, _, h, _ => by simp [nd] at h
  | _, .str _, _, h, _ => by simp [nd] at h
  | _, .dict _, _, h, _ => by simp [nd] at h
theorem nds_eqv : ∀ {ds es : List D}, nds ds = true → nds es = true → PyData.eqvAll ds es = true → ds = es
  | [], [], _, _, _ => rfl
  | x :: xs, y :: ys, h1, h2, h => by
    simp only [nds, Bool.and_eq_true] at h1 h2
    simp only [PyData.eqvAll, Bool.and_eq_true] at h
    rw [nd_eqv h1.1 h2.1 h.1, nds_eqv h1.2 h2.2 h.2]
  | [], _ :: _, _, _, h => by simp [PyData.eqvAll] at h
  | _ :: _, [], _, _, h => by simp [PyData.eqvAll] at h
end
theorem nds_of : ∀ {ds : List D}, (∀ d, d ∈ ds → nd d = true) → nds ds = true
  | [], _ => rfl
  | e :: ds, h => by
    simp only [nds, Bool.and_eq_true]
    exact ⟨h e List.mem_cons_self, nds_of fun d hd => h d (List.mem_cons_of_mem _ hd)⟩
theorem depthAll_le {k : Nat} : ∀ {ds : List D}, (∀ d, d ∈ ds → d.depth ≤ k) → PyData.depthAll ds ≤ k
  | [], _ => Nat.zero_le _
  | e :: ds, h => by
    simp only [PyData.depthAll]
    exact Nat.max_le.mpr ⟨h e List.mem_cons_self, depthAll_le fun d hd => h d (List.mem_cons_of_mem _ hd)⟩
/-- such data, of a depth -/
structure OkD (k : Nat) (d : D) : Prop where
  nd : nd d = true
  dp : d.depth ≤ k
theorem okD_int {k : Nat} (i : Int) : OkD k (.int i) := ⟨rfl, by simp [PyData.depth]⟩
theorem okD_list {k : Nat} {ds : List D} (h : ∀ d, d ∈ ds → OkD k d) : OkD (k + 1) (.list ds) := ⟨by simp only [DL.nd]; exact nds_of fun d hd => (h d hd).nd, by simp only [PyData.depth]; exact Nat.succ_le_succ (depthAll_le fun d hd => (h d hd).dp)⟩
theorem okD_tuple {k : Nat} {ds : List D} (h : ∀ d, d ∈ ds → OkD k d) : OkD (k + 1) (.tuple ds) := ⟨by simp only [DL.nd]; exact nds_of fun d hd => (h d hd).nd, by simp only [PyData.depth]; exact Nat.succ_le_succ (depthAll_le fun d hd => (h d hd).dp)⟩
theorem OkD.shaped {k : Nat} {d : D} (h : OkD k d) (hk : k ≤ 64) : SeqAt.shaped d = true := by
  unfold SeqAt.shaped
  rw [nd_lay h.nd, decide_eq_true (Nat.le_trans h.dp hk)]
  rfl
theorem OkD.noDict {k : Nat} {d : D} (h : OkD k d) : noDict d = true := noDict_lay d (nd_lay h.nd)
theorem OkD.eqv {k j : Nat} {d e : D} (h : OkD k d) (h' : OkD j e) {b : Bool} (q : b = true ↔ d = e) : PyData.eqv d e = b := by
  have r := SeqAt.eqv_refl d (nd_lay h.nd)
  cases b with
  | true => rw [← q.mp rfl]; exact r
  | false =>
    cases c : PyData.eqv d e with
    | false => rfl
    | true => exact absurd (q.mpr (nd_eqv h.nd h'.nd c)) Bool.false_ne_true
theorem okD_ints {k : Nat} (ns : List Int) : OkD (k + 1) (.list (ns.map PyData.int)) := okD_list fun d hd => by
  obtain ⟨i, _, rfl⟩ := List.mem_map.mp hd
  exact okD_int i
section
variable {K : PySem.W.Frag} {env : List Sl} {ta tb : TE} {d e : D} {k j : Nat} {b : Bool}
theorem jv_eqB (ha : JE K ta env d) (hb : JE K tb env e) (h1 : OkD k d) (h2 : OkD j e) (q : b = true ↔ d = e) (hk : k ≤ 64 := by decide) (hj : j ≤ 64 := by decide) : JV K (tOp (rEqD K) ta tb) env (.bl b) :=
  (jv_eq ha hb (h1.shaped hk) (h2.shaped hj)).eqV (congrArg V.bl (h1.eqv h2 q))
theorem jv_neB (ha : JE K ta env d) (hb : JE K tb env e) (h1 : OkD k d) (h2 : OkD j e) (q : b = true ↔ d = e) (hk : k ≤ 64 := by decide) (hj : j ≤ 64 := by decide) : JV K (tOp (rNeD K) ta tb) env (.bl (!b)) :=
  (jv_ne ha hb (h1.shaped hk) (h2.shaped hj)).eqV (congrArg (fun b => V.bl (!b)) (h1.eqv h2 q))
theorem jd_eE {n : Bool} (h : JD K ta env n d) (o : OkD k d) : JE K ta env d := h.dE o.noDict
theorem js_eE {n : Bool} {ds : List D} (h : JS K ta env n ds) (o : OkD k (.list ds)) : JE K ta env (.list ds) := h.sE (by have := o.noDict; simpa [noDict] using this)
end
/-! in, not in -/
def rInTD (K : PySem.W.Frag) : R2 := fun x y H Q => ∃ d ds, Dp K H x d ∧ Dp K H y (.tuple ds) ∧ SeqAt.shaped d = true ∧ SeqAt.shaped (.tuple ds) = true ∧ Q (.bl (ds.any fun z => PyData.eqv z d)) H
def rNinTD (K : PySem.W.Frag) : R2 := fun x y H Q => ∃ d ds, Dp K H x d ∧ Dp K H y (.tuple ds) ∧ SeqAt.shaped d = true ∧ SeqAt.shaped (.tuple ds) = true ∧ Q (.bl (!ds.any fun z => PyData.eqv z d)) H
theorem op_inTD {X : Cx} (hu : X.A.units + 65 < cLine) : OpR X (compareOp .In) (rInTD X.K) := by
  intro pins s σ H x y v u Q I rx ry h
  obtain ⟨d, ds, hd, he, sd, se, q⟩ := h
  obtain ⟨as, r1⟩ := Dp.reads I d x v hd rx
  obtain ⟨bs, r2⟩ := Dp.reads I (.tuple ds) y u he ry
  exact SeqAt.in_tuple_reads r2 r1 (SeqAt.canLay_of_shaped se) (SeqAt.canLay_of_shaped sd) (PyProof.Rows.room_in_shaped sd hu) ⟨.bl _, H, I, rfl, q⟩
theorem op_ninTD {X : Cx} (hu : X.A.units + 65 < cLine) : OpR X (compareOp .NotIn) (rNinTD X.K) := by
  intro pins s σ H x y v u Q I rx ry h
  obtain ⟨d, ds, hd, he, sd, se, q⟩ := h
  obtain ⟨as, r1⟩ := Dp.reads I d x v hd rx
  obtain ⟨bs, r2⟩ := Dp.reads I (.tuple ds) y u he ry
  exact SeqAt.notIn_tuple_reads r2 r1 (SeqAt.canLay_of_shaped se) (SeqAt.canLay_of_shaped sd) (PyProof.Rows.room_in_shaped sd hu) ⟨.bl _, H, I, rfl, q⟩
abbrev rInA (K : PySem.W.Frag) : R2 := rOr (rInD K) (rInTD K)
abbrev rNinA (K : PySem.W.Frag) : R2 := rOr (rNotInD K) (rNinTD K)
theorem op_inU (K : PySem.W.Frag) {X : Cx} {k : Nat} (hK : X.K = K) (hr : Room k X.A) : OpR X (compareOp .In) (rInA K) := by
  subst hK
  have u := hr.un
  exact opr_or (op_inD (by omega)) (op_inTD (by omega))
theorem op_ninU (K : PySem.W.Frag) {X : Cx} {k : Nat} (hK : X.K = K) (hr : Room k X.A) : OpR X (compareOp .NotIn) (rNinA K) := by
  subst hK
  have u := hr.un
  exact opr_or (op_notInD (by omega)) (op_ninTD (by omega))
theorem nds_mem : ∀ {ds : List D} {d : D}, nds ds = true → d ∈ ds → nd d = true
  | e :: ds, d, h, m => by
    simp only [nds, Bool.and_eq_true] at h
    rcases List.mem_cons.mp m with z | z
    · rw [z]; exact h.1
    · exact nds_mem h.2 z
theorem any_eqv {j : Nat} {d : D} (h : OkD j d) {b : Bool} : ∀ {es : List D}, nds es = true → (b = true ↔ d ∈ es) → (es.any fun z => PyData.eqv z d) = b := fun {es} he q => by
  rw [Bool.eq_iff_iff, q, List.any_eq_true]
  exact ⟨fun ⟨z, hz, e⟩ => by rw [← nd_eqv (nds_mem he hz) h.nd e]; exact hz, fun m => ⟨d, m, SeqAt.eqv_refl d (nd_lay h.nd)⟩⟩
section
variable {K : PySem.W.Frag} {env : List Sl} {ta tb : TE} {d : D} {es : List D} {k j : Nat} {b : Bool}
theorem jv_inL (ha : JE K ta env d) (hb : JE K tb env (.list es)) (h1 : OkD j d) (h2 : OkD k (.list es)) (q : b = true ↔ d ∈ es) (hj : j ≤ 64 := by decide) (hk : k ≤ 64 := by decide) : JV K (tOp (rInA K) ta tb) env (.bl b) :=
  Jd.op ha hb fun _ _ _ x y _ H2 _ _ s2 p1 p2 Q c => .inl ⟨d, es, Dp.ext s2 p1, p2, h1.shaped hj, h2.shaped hk, by rw [any_eqv h1 (by have := h2.nd; simpa [nd] using this) q]; exact c _ H2 (Same.refl H2) rfl⟩
theorem jv_inT (ha : JE K ta env d) (hb : JE K tb env (.tuple es)) (h1 : OkD j d) (h2 : OkD k (.tuple es)) (q : b = true ↔ d ∈ es) (hj : j ≤ 64 := by decide) (hk : k ≤ 64 := by decide) : JV K (tOp (rInA K) ta tb) env (.bl b) :=
  Jd.op ha hb fun _ _ _ x y _ H2 _ _ s2 p1 p2 Q c => .inr ⟨d, es, Dp.ext s2 p1, p2, h1.shaped hj, h2.shaped hk, by rw [any_eqv h1 (by have := h2.nd; simpa [nd] using this) q]; exact c _ H2 (Same.refl H2) rfl⟩
theorem jv_ninL (ha : JE K ta env d) (hb : JE K tb env (.list es)) (h1 : OkD j d) (h2 : OkD k (.list es)) (q : b = true ↔ d ∈ es) (hj : j ≤ 64 := by decide) (hk : k ≤ 64 := by decide) : JV K (tOp (rNinA K) ta tb) env (.bl (!b)) :=
  Jd.op ha hb fun _ _ _ x y _ H2 _ _ s2 p1 p2 Q c => .inl ⟨d, es, Dp.ext s2 p1, p2, h1.shaped hj, h2.shaped hk, by rw [any_eqv h1 (by have := h2.nd; simpa [nd] using this) q]; exact c _ H2 (Same.refl H2) rfl⟩
theorem jv_ninT (ha : JE K ta env d) (hb : JE K tb env (.tuple es)) (h1 : OkD j d) (h2 : OkD k (.tuple es)) (q : b = true ↔ d ∈ es) (hj : j ≤ 64 := by decide) (hk : k ≤ 64 := by decide) : JV K (tOp (rNinA K) ta tb) env (.bl (!b)) :=
  Jd.op ha hb fun _ _ _ x y _ H2 _ _ s2 p1 p2 Q c => .inr ⟨d, es, Dp.ext s2 p1, p2, h1.shaped hj, h2.shaped hk, by rw [any_eqv h1 (by have := h2.nd; simpa [nd] using this) q]; exact c _ H2 (Same.refl H2) rfl⟩
end
section
variable {P : Program} {w : World} {K : PySem.W.Frag} {mg : Str → Option Value} {base : Heap}
/-- the rule for a def that no exception leaves -/
theorem fnD0 {x qual : Str} {st : Stmt} {f : Addr} {fd : FuncData} {N ps : List Str} {k : Nat} {cl : XC → Addr} {fl : List Bool} {r : Bool} {Pre : List D → Prop} {Post : List D → Out → Prop} (F : Fun K x qual st f fd) (S : FnScope N ps (defScope st)) (hl : fl.length = ps.length)
    (body : ∀ (cdv : Value) (A : Around) (outer : List Env) (s : Shared) (E : XK) (M B : As) (H : Hp) (Q : VK) (ds : List D), Room k (A.deeper (PyProof.Rows.envOfC qual (defScope st) s.heap.objs.size f cdv)) → Pre ds → Wf M B H → (∀ out, Post ds out → OutOk K cl M B r H Q E out) →
      ∃ t, PSs (cxOf CX0 P w K mg base N qual (defScope st) f cdv A outer s H E).nox (defBody st) t ∧ Run ⟨K, M, B, H, H⟩ { nx := fun _ H' => Q .non H', rt := Q } t (argEnv fl ds N.length)) : FnOk P w K mg base CX0 (k + 1) f fd ps (spD K cl fl r Pre Post) := by
  refine F.ok S (fun vs H Q E h => ?_) (fun cdv A outer s H vs Q E hr h => ?_)
  · obtain ⟨M, B, ds, _, rf, _⟩ := h
    rw [rf.len, hl]
  · obtain ⟨M, B, ds, wf, rf, hp, ho⟩ := h
    obtain ⟨t, ht, run⟩ := body cdv A outer s E M B H Q ds hr hp wf ho
    refine ⟨t, ht, run (fun _ => False) _ H ⟨Same.refl H, Same.refl H, wf, fun a z => z.elim, ?_, fun i j p n m ds es h1 => absurd h1 (argEnv_noOwn i n ds), fun i n ds p h1 => absurd h1 (argEnv_noOwn i n ds)⟩⟩
    have e1 : (fun a => M a ∨ False) = M := funext fun a => propext ⟨fun z => z.elim id fun y => y.elim, .inl⟩
    have e2 : (fun a => B a ∨ False) = B := funext fun a => propext ⟨fun z => z.elim id fun y => y.elim, .inl⟩
    show EnvOk K (fun a => M a ∨ False) (fun a => B a ∨ False) H _ _
    rw [e1, e2]
    exact start_ok N rf
/-- what a law is asked -/
def preLaw (ds : List D) : Prop := ∃ ns, ds = [scrD ns] ∧ ScrOk ns
def postLaw (_ : List D) (out : Out) : Prop := out = .val (.bool true)
theorem law_sp {cl : XC → Addr} {H : Hp} {a : Addr} {ns : List Int} (h1 : ns.length ≤ 63) (h2 : ∀ z ∈ ns, Builtin.Int.intBits z ≤ 1048576) (h : SqL K H a (ns.map V.int)) :
    spD K cl [false] true preLaw postLaw [.ref a] H (fun v _ => v = .bl true) fun _ _ _ => False := by
  refine ⟨fun _ => False, fun _ => False, [scrD ns], ⟨fun _ z => z, fun _ z => z.elim⟩, .cons (.scr (ScrAt.of h)) .nil, ⟨ns, rfl, h1, fun z hz => ?_⟩, fun out po => ?_⟩
  · have := h2 z hz
    unfold Builtin.Int.intBits at this
    split at this
    · rename_i e
      have e' : z = 0 := by simpa using e
      rw [e']
      exact Nat.zero_le _
    · omega
  · have e : out = .val (.bool true) := po
    subst e
    exact fun v H' s r => Rp.flat r rfl
end
end DL

namespace TT
open DL
/-! the rows as lists -/
def ent (R : List (List Int)) : Mat := fun i j => (R.getD i []).getD j 0
structure Sq (n : Nat) (R : List (List Int)) : Prop where
  len : R.length = n
  row : ∀ r, r ∈ R → r.length = n
theorem Sq.at {n : Nat} {R : List (List Int)} (s : Sq n R) {i : Nat} (h : i < n) : (R.getD i []).length = n := by
  have h' : i < R.length := by rw [s.len]; exact h
  rw [List.getD_eq_getElem?_getD, List.getElem?_eq_getElem h']
  exact s.row _ (List.getElem_mem _)
def sweptRow (top row : List Int) (a : Nat) (last : Int) : List Int := (List.range row.length).map fun k => (row.getD k 0 * top.getD a 0 - row.getD a 0 * top.getD k 0).fdiv last
def sweptL (R : List (List Int)) (a : Nat) (last : Int) : List (List Int) := R.take (a + 1) ++ (R.drop (a + 1)).map fun row => sweptRow (R.getD a []) row a last
def swapL (R : List (List Int)) (a k : Nat) : List (List Int) := R.take a ++ [R.getD k []] ++ (R.drop (a + 1)).take (k - (a + 1)) ++ [R.getD a []] ++ R.drop (k + 1)
theorem sweptL_sq {n a : Nat} {R : List (List Int)} {last : Int} (s : Sq n R) (ha : a < n) : Sq n (sweptL R a last) := by
  refine ⟨?_, fun r hr => ?_⟩
  · have := s.len
    simp [sweptL]; omega
  · rcases List.mem_append.mp hr with h | h
    · exact s.row r (List.mem_of_mem_take h)
    · obtain ⟨q, hq, rfl⟩ := List.mem_map.mp h
      unfold sweptRow
      rw [List.length_map, List.length_range]
      exact s.row q (List.mem_of_mem_drop hq)
theorem sweptL_low {n a i : Nat} {R : List (List Int)} {last : Int} (s : Sq n R) (ha : a < n) (hi : i ≤ a) : (sweptL R a last).getD i [] = R.getD i [] := by
  have := s.len
  unfold sweptL
  rw [List.getD_eq_getElem?_getD, List.getElem?_append_left (by rw [List.length_take]; omega), List.getElem?_take, if_pos (by omega), List.getD_eq_getElem?_getD]
theorem sweptL_high {n a i : Nat} {R : List (List Int)} {last : Int} (s : Sq n R) (ha : a < n) (hi : a < i) (hn : i < n) : (sweptL R a last).getD i [] = sweptRow (R.getD a []) (R.getD i []) a last := by
  have hl := s.len
  have h' : i < R.length := by omega
  have hg : R.getD i [] = R[i] := by rw [List.getD_eq_getElem?_getD, List.getElem?_eq_getElem h']; rfl
  rw [hg]
  unfold sweptL
  generalize R.getD a [] = top
  rw [List.getD_eq_getElem?_getD, List.getElem?_append_right (by rw [List.length_take]; omega), List.length_take, List.getElem?_map, List.getElem?_drop]
  have e : a + 1 + (i - min (a + 1) R.length) = i := by omega
  rw [e, List.getElem?_eq_getElem h']
  rfl
theorem sweptRow_get {top row : List Int} {a k : Nat} {last : Int} (h : k < row.length) : (sweptRow top row a last).getD k 0 = (row.getD k 0 * top.getD a 0 - row.getD a 0 * top.getD k 0).fdiv last := by
  unfold sweptRow
  rw [List.getD_eq_getElem?_getD, List.getElem?_map, List.getElem?_range h]
  rfl
theorem sweptL_ent {n a i j : Nat} {R : List (List Int)} {last : Int} (s : Sq n R) (ha : a < n) (hi : a < i) (hn : i < n) (hj : j < n) :
    ent (sweptL R a last) i j = (ent R i j * ent R a a - ent R i a * ent R a j).fdiv last := by
  show ((sweptL R a last).getD i []).getD j 0 = _
  rw [sweptL_high s ha hi hn, sweptRow_get (by rw [s.at hn]; exact hj)]
  rfl
theorem swapL_sq {n a k : Nat} {R : List (List Int)} (s : Sq n R) (ha : a < k) (hk : k < n) : Sq n (swapL R a k) := by
  have hl := s.len
  refine ⟨?_, fun r hr => ?_⟩
  · simp [swapL]; omega
  · simp only [swapL, List.mem_append, List.mem_singleton] at hr
    rcases hr with (((h | h) | h) | h) | h
    · exact s.row r (List.mem_of_mem_take h)
    · rw [h]; exact s.at hk
    · exact s.row r (List.mem_of_mem_drop (List.mem_of_mem_take h))
    · rw [h]; exact s.at (by omega)
    · exact s.row r (List.mem_of_mem_drop h)
theorem swapL_get {n a k i : Nat} {R : List (List Int)} (s : Sq n R) (ha : a < k) (hk : k < n) (hi : i < n) : (swapL R a k).getD i [] = R.getD (if i = a then k else if i = k then a else i) [] := by
  have hl := s.len
  have l1 : (R.take a).length = a := by rw [List.length_take]; omega
  have l3 : ((R.drop (a + 1)).take (k - (a + 1))).length = k - (a + 1) := by rw [List.length_take, List.length_drop]; omega
  unfold swapL
  generalize e7 : R.getD k [] = rk
  generalize e8 : R.getD a [] = ra
  simp only [List.append_assoc]
  rw [List.getD_eq_getElem?_getD, List.getElem?_append, l1]
  by_cases c1 : i < a
  · rw [if_pos c1, List.getElem?_take, if_pos c1, if_neg (by omega), if_neg (by omega), List.getD_eq_getElem?_getD]
  · rw [if_neg c1, List.getElem?_append]
    by_cases c2 : i = a
    · rw [if_pos (by simp; omega), if_pos c2, c2, Nat.sub_self, e7]
      rfl
    · rw [if_neg (by simp; omega), if_neg c2, List.getElem?_append, l3]
      have e0 : ([rk] : List (List Int)).length = 1 := rfl
      rw [e0]
      by_cases c3 : i < k
      · rw [if_pos (by omega), if_neg (by omega), List.getElem?_take, if_pos (by omega), List.getElem?_drop, List.getD_eq_getElem?_getD]
        have e : a + 1 + (i - a - 1) = i := by omega
        rw [e]
      · rw [if_neg (by omega), List.getElem?_append]
        by_cases c4 : i = k
        · have e : i - a - 1 - (k - (a + 1)) = 0 := by omega
          rw [if_pos (by rw [e]; exact Nat.one_pos), if_pos c4, e, e8]
          rfl
        · rw [if_neg (by simp; omega), if_neg c4, List.getElem?_drop, List.getD_eq_getElem?_getD]
          have e : k + 1 + (i - a - 1 - (k - (a + 1)) - 1) = i := by omega
          have e1 : ([ra] : List (List Int)).length = 1 := rfl
          rw [e1, e]
theorem swapL_ent {n a k i : Nat} {R : List (List Int)} (s : Sq n R) (ha : a < k) (hk : k < n) (hi : i < n) (j : Nat) : ent (swapL R a k) i j = swapRows (ent R) a k i j := by
  show ((swapL R a k).getD i []).getD j 0 = _
  rw [swapL_get s ha hk hi]
  rfl
theorem BInv.congr {n a : Nat} {M R R' : Mat} {side last : Int} (B : BInv n a M R side last) (ha : a ≤ n) (h : ∀ i j, i < n → j < n → R' i j = R i j) : BInv n a M R' side last := by
  obtain ⟨P, e1, e2, e3, e4, e5, e6⟩ := B.ex
  refine ⟨P, e1, e2, e3, e4, e5, fun i hi hin => ?_⟩
  obtain ⟨z, q, c, hq, hh⟩ := e6 i hi hin
  refine ⟨fun j hj => by rw [h i j hin (by omega)]; exact z j hj, q, c, hq, fun j hj => by rw [h i j hin hj]; exact hh j hj⟩
/-- numbers below 2^60, up to eight rows -/
structure Small (n : Nat) (R : List (List Int)) : Prop where
  sq : Sq n R
  le : n ≤ 8
  bd : ∀ i j, i < n → j < n → (ent R i j).natAbs ≤ 2 ^ 60
theorem pow_le8 {a : Nat} (h : a ≤ 8) : (8 * 2 ^ 60) ^ a ≤ 2 ^ 504 := by
  have e : (8 * 2 ^ 60 : Nat) = 2 ^ 63 := by decide
  rw [e, ← Nat.pow_mul]
  exact Nat.pow_le_pow_right (by decide) (by omega)
theorem BInv.big {n a : Nat} {M : List (List Int)} {R : Mat} {side last : Int} (B : BInv n a (ent M) R side last) (s : Small n M) (ha : a < n) {i j : Nat} (hi : a ≤ i) (hin : i < n) (hj : j < n) : (R i j).natAbs ≤ 2 ^ 504 :=
  Nat.le_trans (B.bound s.le s.bd hi hin hj) (pow_le8 (by have := s.le; omega))
theorem BInv.lastBig {n a : Nat} {M : List (List Int)} {R : Mat} {side last : Int} (B : BInv n a (ent M) R side last) (s : Small n M) (ha : a ≤ n) : last.natAbs ≤ 2 ^ 504 :=
  Nat.le_trans (B.lastBound s.le ha s.bd) (pow_le8 (by have := s.le; omega))
end TT
namespace DL
open PySem L2 TT
def rowD (r : List Int) : D := .list (r.map .int)
def rowsD (R : List (List Int)) : D := .list (R.map rowD)
theorem lt_of_le504 {x : Nat} (h : x ≤ 2 ^ 504) : x < 2 ^ 505 := Nat.lt_of_le_of_lt h (Nat.pow_lt_pow_right (by decide) (by decide))
theorem cmul504 {i j : Int} (h1 : i.natAbs ≤ 2 ^ 504) (h2 : j.natAbs ≤ 2 ^ 504) : CMulB i j := cmulWB (wide_mul (lt_of_le504 h1) (lt_of_le504 h2) (by decide) (by decide) (by decide))
theorem cdiv504 {i j : Int} (h : j ≠ 0) (h2 : j.natAbs ≤ 2 ^ 504) : CDivA i j := ⟨h, Nat.lt_of_lt_of_le (PySem.Flt.log2_lt_of (by decide) (lt_of_le504 h2)) (by decide)⟩
theorem natD_inj {a b : Nat} (h : natD a = natD b) : a = b := Int.ofNat.inj (PyData.int.inj h)
theorem ints_inj {a b : List Int} (h : a.map PyData.int = b.map PyData.int) : a = b := (List.map_inj_right fun _ _ e => PyData.int.inj e).mp h
theorem rowD_inj {a b : List Int} (h : rowD a = rowD b) : a = b := ints_inj (PyData.list.inj h)
theorem rowsD_inj {a b : List (List Int)} (h : rowsD a = rowsD b) : a = b := (List.map_inj_right fun _ _ e => rowD_inj e).mp (PyData.list.inj h)
theorem tieD_inj {a b : Tie} (h : tieD a = tieD b) : a = b := by
  have h1 := PyData.tuple.inj h
  have h2 := List.cons.inj h1
  exact Prod.ext (natD_inj h2.1) (natD_inj (List.cons.inj h2.2).1)
theorem ties_inj {a b : List Tie} (h : a.map tieD = b.map tieD) : a = b := (List.map_inj_right fun _ _ e => tieD_inj e).mp h
theorem scrD_inj {a b : List Int} (h : scrD a = scrD b) : a = b := by
  have h1 := (List.cons.inj (PyData.dict.inj h)).2
  exact (List.map_inj_right fun x y e => PyData.int.inj (Prod.mk.inj e).2).mp h1
theorem sq_uniq {n m : Nat} {R : List (List Int)} (a : Sq n R) (b : Sq m R) : n = m := a.len.symm.trans b.len
theorem one_cons {α : Type} {a b : α} {as bs : List α} (h : a :: as = b :: bs) : a = b ∧ as = bs := List.cons.inj h
theorem getD_set_same {α : Type} {R : List α} {a : Nat} {r d : α} (h : a < R.length) : (R.set a r).getD a d = r := by
  rw [List.getD_eq_getElem?_getD, List.getElem?_set_self h]
  rfl
theorem getD_set_ne {α : Type} {R : List α} {a i : Nat} {r d : α} (h : i ≠ a) : (R.set a r).getD i d = R.getD i d := by
  rw [List.getD_eq_getElem?_getD, List.getElem?_set_ne (fun z => h z.symm), List.getD_eq_getElem?_getD]
theorem range_getD {α : Type} {n j : Nat} {f : Nat → α} {d : α} (h : j < n) : ((List.range n).map f).getD j d = f j := by
  rw [List.getD_eq_getElem?_getD, List.getElem?_map, List.getElem?_range h]
  rfl
theorem put_ent {n a i : Nat} {R : List (List Int)} {row : List Int} (s : Sq n R) (ha : a < n) (j : Nat) : ent (R.set a row) i j = setRow (ent R) a (fun j => row.getD j 0) i j := by
  show ((R.set a row).getD i []).getD j 0 = if i = a then row.getD j 0 else ent R i j
  by_cases c : i = a
  · rw [if_pos c, c, getD_set_same (by rw [s.len]; exact ha)]
  · rw [if_neg c, getD_set_ne c]
    rfl
theorem put_sq {n a : Nat} {R : List (List Int)} {row : List Int} (s : Sq n R) (h : row.length = n) : Sq n (R.set a row) :=
  ⟨by rw [List.length_set]; exact s.len, fun r hr => by
    rcases List.mem_or_eq_of_mem_set hr with h1 | h1
    · exact s.row r h1
    · rw [h1]; exact h⟩
def Bd (n : Nat) (b : Nat) (R : List (List Int)) : Prop := ∀ i j, i < n → j < n → (ent R i j).natAbs ≤ b
/-- rows all of length n, numbers of them up to b -/
structure Rw (n b : Nat) (R : List (List Int)) : Prop where
  row : ∀ r, r ∈ R → r.length = n
  bd : ∀ r, r ∈ R → ∀ x, x ∈ r → x.natAbs ≤ b
theorem Rw.at {n b i : Nat} {R : List (List Int)} (h : Rw n b R) (hi : i < R.length) : (R.getD i []).length = n := by
  rw [List.getD_eq_getElem?_getD, List.getElem?_eq_getElem hi]
  exact h.row _ (List.getElem_mem _)
theorem Rw.mem {n b i : Nat} {R : List (List Int)} (h : Rw n b R) (hi : i < R.length) : ∀ x, x ∈ R.getD i [] → x.natAbs ≤ b := by
  rw [List.getD_eq_getElem?_getD, List.getElem?_eq_getElem hi]
  exact h.bd _ (List.getElem_mem _)
theorem mem_getD {r : List Int} {j : Nat} (h : j < r.length) : r.getD j 0 ∈ r := by
  rw [List.getD_eq_getElem?_getD, List.getElem?_eq_getElem h]
  exact List.getElem_mem _
theorem Rw.ent {n b i j : Nat} {R : List (List Int)} (h : Rw n b R) (hi : i < R.length) (hj : j < n) : (ent R i j).natAbs ≤ b := h.mem hi _ (mem_getD (by rw [h.at hi]; exact hj))
theorem Rw.nil {n b : Nat} : Rw n b [] := ⟨fun _ h => (nomatch h), fun _ h => (nomatch h)⟩
theorem Rw.push {n b : Nat} {R : List (List Int)} (h : Rw n b R) {r : List Int} (h1 : r.length = n) (h2 : ∀ x, x ∈ r → x.natAbs ≤ b) : Rw n b (R ++ [r]) :=
  ⟨fun s hs => (List.mem_append.mp hs).elim (h.row s) fun z => by rw [List.mem_singleton.mp z]; exact h1, fun s hs => (List.mem_append.mp hs).elim (h.bd s) fun z => by rw [List.mem_singleton.mp z]; exact h2⟩
theorem Rw.put {n b i : Nat} {R : List (List Int)} (h : Rw n b R) {r : List Int} (h1 : r.length = n) (h2 : ∀ x, x ∈ r → x.natAbs ≤ b) : Rw n b (R.set i r) :=
  ⟨fun s hs => (List.mem_or_eq_of_mem_set hs).elim (h.row s) fun z => by rw [z]; exact h1, fun s hs => (List.mem_or_eq_of_mem_set hs).elim (h.bd s) fun z => by rw [z]; exact h2⟩
theorem Rw.up {n b c : Nat} {R : List (List Int)} (h : Rw n b R) (k : b ≤ c) : Rw n c R := ⟨h.row, fun r hr x hx => Nat.le_trans (h.bd r hr x hx) k⟩
theorem Rw.sq {n b : Nat} {R : List (List Int)} (h : Rw n b R) (k : R.length = n) : Sq n R := ⟨k, h.row⟩
theorem Rw.small {n b : Nat} {R : List (List Int)} (h : Rw n b R) (k : R.length = n) (hn : n ≤ 8) (hb : b ≤ 2 ^ 60) : Small n R := ⟨h.sq k, hn, fun i j hi hj => Nat.le_trans (h.ent (by omega) hj) hb⟩
/-- without a row and a column -/
def dropCol (r : List Int) (k : Nat) : List Int := r.take k ++ r.drop (k + 1)
theorem dropCol_len {r : List Int} {k : Nat} (h : k < r.length) : (dropCol r k).length = r.length - 1 := by
  simp [dropCol]; omega
theorem dropCol_get {r : List Int} {k : Nat} (h : k < r.length) (j : Nat) : (dropCol r k).getD j 0 = r.getD (skip k j) 0 := by
  unfold dropCol skip
  rw [List.getD_eq_getElem?_getD, List.getElem?_append, List.length_take]
  by_cases c : j < k
  · rw [if_pos (by omega), if_pos c, List.getElem?_take, if_pos c, List.getD_eq_getElem?_getD]
  · rw [if_neg (by omega), if_neg c, List.getElem?_drop, List.getD_eq_getElem?_getD]
    have e : k + 1 + (j - min k r.length) = j + 1 := by omega
    rw [e]
def minorL (R : List (List Int)) (k : Nat) : List (List Int) := (R.drop 1).map fun r => dropCol r k
theorem minorL_ent {n k i : Nat} {R : List (List Int)} (s : Sq (n + 1) R) (hk : k < n + 1) (hi : i < n) (j : Nat) : ent (minorL R k) i j = minor (ent R) k i j := by
  have hl := s.len
  show ((minorL R k).getD i []).getD j 0 = (R.getD (i + 1) []).getD (skip k j) 0
  have e : (minorL R k).getD i [] = dropCol (R.getD (i + 1) []) k := by
    unfold minorL
    rw [List.getD_eq_getElem?_getD, List.getElem?_map, List.getElem?_drop, Nat.add_comm 1 i, List.getElem?_eq_getElem (show i + 1 < R.length by omega), List.getD_eq_getElem?_getD, List.getElem?_eq_getElem (show i + 1 < R.length by omega)]
    rfl
  rw [e, dropCol_get (by rw [s.at (by omega)]; exact hk)]
theorem minorL_small {n k : Nat} {R : List (List Int)} (s : Small (n + 1) R) (hk : k < n + 1) : Small n (minorL R k) := by
  have h1 := s.sq
  have hl := h1.len
  refine ⟨⟨by simp [minorL]; omega, fun r hr => ?_⟩, by have := s.le; omega, fun i j hi hj => ?_⟩
  · obtain ⟨q, hq, rfl⟩ := List.mem_map.mp hr
    have ql := h1.row q (List.mem_of_mem_drop hq)
    rw [dropCol_len (by omega), ql]
    rfl
  · rw [minorL_ent h1 hk hi]
    exact s.bd _ _ (by omega) (skip_lt hj)
end DL

namespace TT
def betw (ts : List Tie) (p q : Nat) : List Tie := ts.filter fun t => decide (t = (p, q) ∨ t = (q, p))
def ends (ts : List Tie) (p : Nat) : List Tie := ts.filter fun t => decide (p = t.1 ∨ p = t.2) && !decide (t.1 = t.2)
theorem ind01 (a b : Nat) : (a = b ∧ ind a b = 1) ∨ (a ≠ b ∧ ind a b = 0) := by
  by_cases c : a = b
  · exact .inl ⟨c, if_pos c⟩
  · exact .inr ⟨c, if_neg c⟩
theorem lap_off {p q : Nat} (h : p ≠ q) : ∀ ts : List Tie, lap ts p q = 0 - ((betw ts p q).length : Int)
  | [] => rfl
  | (x, y) :: ts => by
    have ih := lap_off h ts
    show (ind p x - ind p y) * (ind q x - ind q y) + lap ts p q = 0 - ((betw ((x, y) :: ts) p q).length : Int)
    have e : betw ((x, y) :: ts) p q = if (x = p ∧ y = q) ∨ (x = q ∧ y = p) then (x, y) :: betw ts p q else betw ts p q := by
      unfold betw
      rw [List.filter_cons]
      by_cases c : (x = p ∧ y = q) ∨ (x = q ∧ y = p)
      · rw [if_pos c, if_pos (by simpa using c)]
      · rw [if_neg c, if_neg (by simpa using c)]
    rw [e]
    have v : (ind p x - ind p y) * (ind q x - ind q y) = if (x = p ∧ y = q) ∨ (x = q ∧ y = p) then -1 else 0 := by
      rcases ind01 p x with ⟨c1, e1⟩ | ⟨c1, e1⟩ <;> rcases ind01 p y with ⟨c2, e2⟩ | ⟨c2, e2⟩ <;> rcases ind01 q x with ⟨c3, e3⟩ | ⟨c3, e3⟩ <;> rcases ind01 q y with ⟨c4, e4⟩ | ⟨c4, e4⟩ <;> rw [e1, e2, e3, e4] <;> split <;> omega
    rw [v]
    split
    · rw [List.length_cons]; omega
    · omega
theorem lap_diag {p : Nat} : ∀ ts : List Tie, lap ts p p = ((ends ts p).length : Int)
  | [] => rfl
  | (x, y) :: ts => by
    have ih := lap_diag (p := p) ts
    show (ind p x - ind p y) * (ind p x - ind p y) + lap ts p p = ((ends ((x, y) :: ts) p).length : Int)
    have e : ends ((x, y) :: ts) p = if (p = x ∨ p = y) ∧ x ≠ y then (x, y) :: ends ts p else ends ts p := by
      unfold ends
      rw [List.filter_cons]
      by_cases c : (p = x ∨ p = y) ∧ x ≠ y
      · rw [if_pos c, if_pos (by simpa using c)]
      · rw [if_neg c, if_neg (by simpa using c)]
    have v : (ind p x - ind p y) * (ind p x - ind p y) = if (p = x ∨ p = y) ∧ x ≠ y then 1 else 0 := by
      rcases ind01 p x with ⟨c1, e1⟩ | ⟨c1, e1⟩ <;> rcases ind01 p y with ⟨c2, e2⟩ | ⟨c2, e2⟩ <;> rw [e1, e2] <;> split <;> omega
    rw [e, v]
    split
    · rw [List.length_cons]; omega
    · omega
theorem lap_bd (ts : List Tie) (p q : Nat) : (lap ts p q).natAbs ≤ ts.length := by
  by_cases h : p = q
  · rw [h, lap_diag]
    have : (ends ts q).length ≤ ts.length := List.length_filter_le _ _
    omega
  · rw [lap_off h]
    have : (betw ts p q).length ≤ ts.length := List.length_filter_le _ _
    omega
/-- the table, row by row -/
def lapL (n : Nat) (ts : List Tie) : List (List Int) := (List.range n).map fun p => (List.range n).map fun q => lap ts p q
def lapC (n : Nat) (ts : List Tie) : List (List Int) := ((lapL n ts).drop 1).map fun r => r.drop 1
end TT
namespace DL
open PySem L2 TT
theorem lapL_len (n : Nat) (ts : List Tie) : (lapL n ts).length = n := by simp [lapL]
theorem lapL_row {n i : Nat} {ts : List Tie} (h : i < n) : (lapL n ts).getD i [] = (List.range n).map fun q => lap ts i q := by
  unfold lapL
  rw [range_getD h]
theorem lapC_ent {n i j : Nat} {ts : List Tie} (hi : i < n) (hj : j < n) : ent (lapC (n + 1) ts) i j = cutAt 0 (lap ts) i j := by
  have e : (lapC (n + 1) ts).getD i [] = ((List.range (n + 1)).map fun q => lap ts (i + 1) q).drop 1 := by
    unfold lapC
    rw [List.getD_eq_getElem?_getD, List.getElem?_map, List.getElem?_drop]
    unfold lapL
    rw [List.getElem?_map, List.getElem?_range (by omega), Nat.add_comm 1 i]
    rfl
  show ((lapC (n + 1) ts).getD i []).getD j 0 = lap ts (skip 0 i) (skip 0 j)
  rw [e, List.getD_eq_getElem?_getD, List.getElem?_drop, List.getElem?_map, List.getElem?_range (by omega), Nat.add_comm 1 j]
  rfl
theorem lapC_small {n : Nat} {ts : List Tie} (hn : n + 1 ≤ 8) (ht : ts.length ≤ 2 ^ 60) : Small n (lapC (n + 1) ts) := by
  refine ⟨⟨by simp [lapC, lapL], fun r hr => ?_⟩, by omega, fun i j hi hj => ?_⟩
  · obtain ⟨s, hs, rfl⟩ := List.mem_map.mp hr
    obtain ⟨p, _, rfl⟩ := List.mem_map.mp (List.mem_of_mem_drop hs)
    simp
  · rw [lapC_ent hi hj]
    exact Nat.le_trans (lap_bd _ _ _) ht
theorem lapC_det {n : Nat} {ts : List Tie} (hb : Inb (n + 1) ts) : det n (ent (lapC (n + 1) ts)) = (T (n + 1) ts : Int) := by
  rw [← lap_matrix _ (n + 1) ts 0 (Nat.le_refl _) (by omega) hb]
  exact det_congr fun i j hi hj => lapC_ent hi hj
theorem okD_tie {k : Nat} (t : Tie) : OkD (k + 1) (tieD t) := okD_tuple fun d hd => by
  rcases List.mem_cons.mp hd with h | h
  · rw [h]; exact okD_int _
  · rw [List.mem_singleton.mp h]; exact okD_int _
theorem okD_ties {k : Nat} (ts : List Tie) : OkD (k + 2) (.list (ts.map tieD)) := okD_list fun d hd => by
  obtain ⟨t, _, rfl⟩ := List.mem_map.mp hd
  exact okD_tie t
theorem okD_rows {k : Nat} (R : List (List Int)) : OkD (k + 2) (rowsD R) := okD_list fun d hd => by
  obtain ⟨r, _, rfl⟩ := List.mem_map.mp hd
  exact okD_ints r
structure NetOk (n : Nat) (ts : List Tie) : Prop where
  pos : 0 < n
  le : n ≤ 7
  len : ts.length ≤ 16
  inb : Inb n ts
theorem pln_ties (ts : List Tie) : pln (.list (ts.map tieD)) = true := by
  simp only [pln]
  refine plns_of fun d hd => ?_
  obtain ⟨t, _, rfl⟩ := List.mem_map.mp hd
  rfl
theorem all_ties {xs : List D} {p : D → Bool} (h : ∀ x, p x = true → ∃ t : Tie, x = tieD t) : (xs.all p) = true → ∃ ts : List Tie, xs = ts.map tieD := by
  induction xs with
  | nil => exact fun _ => ⟨[], rfl⟩
  | cons x xs ih =>
    intro k
    simp only [List.all_cons, Bool.and_eq_true] at k
    obtain ⟨t, e⟩ := h x k.1
    obtain ⟨ts, e2⟩ := ih k.2
    exact ⟨t :: ts, by rw [e, e2]; rfl⟩
end DL

/-! min, max of a tuple of two ints; a number's place in a list -/
namespace DL
open PySem PySem.W L2
def rMin2T (K : PySem.W.Frag) : List V → Hp → VK → Prop := fun vs H Q => ∃ (a : Addr) (i j : Int), vs = [V.ref a] ∧ SqT K H a [V.int i, V.int j] ∧ Q (.int (min i j)) H
def rMax2T (K : PySem.W.Frag) : List V → Hp → VK → Prop := fun vs H Q => ∃ (a : Addr) (i j : Int), vs = [V.ref a] ∧ SqT K H a [V.int i, V.int j] ∧ Q (.int (max i j)) H
theorem alike2 (i j : Int) : AlikeAll [PyData.int i, PyData.int j] := by
  constructor
  · intro x hx y hy
    rcases List.mem_cons.mp hx with e | e <;> rcases List.mem_cons.mp hy with f | f
    · rw [e, f]; rfl
    · rw [e, List.mem_singleton.mp f]; rfl
    · rw [List.mem_singleton.mp e, f]; rfl
    · rw [List.mem_singleton.mp e, List.mem_singleton.mp f]; rfl
  · intro x hx z
    rcases List.mem_cons.mp hx with e | e
    · rw [e] at z; cases z
    · rw [List.mem_singleton.mp e] at z; cases z
theorem two_reads {X : Cx} {pins : List (Addr × Obj)} {σ : St} {H : Hp} {s : Shared} (I : Inv X pins σ H s) {i j : Int} {us : List Value} (h : Vals [V.int i, V.int j] us) : ∃ as, ReadsAll s.heap us [PyData.int i, PyData.int j] as :=
  Dp.readsAll I [.int i, .int j] [V.int i, V.int j] us (.cons (.int i) (.cons (.int j) .nil)) h
theorem cr_min2T {X : Cx} (hc : X.calm = true) (hu : X.A.units + 65 < cLine) : CallR X (.builtin "min") (rMin2T X.K) := by
  intro pins s σ H vs us Q I r h
  obtain ⟨a, i, j, rfl, hs, q⟩ := h
  obtain ⟨its, rv, pl, _⟩ := I.tuple hs
  obtain ⟨as, ra⟩ := two_reads I rv
  rw [Vals.ref1 r]
  refine min_tuple_data (x := .int i) (xs := [.int j]) (I.ok.hd hc) pl (by simpa using ra) (alike2 i j) ?_ fun n v h' tk bs _ rd hk => ?_
  · have : PyData.depthAll [PyData.int i, PyData.int j] = 0 := by simp [PyData.depthAll, PyData.depth]
    omega
  · rw [show ([PyData.int j] : List PyData) = [j].map PyData.int from rfl, minD_ints] at rd
    cases rd
    exact ⟨.int (min i j), H, I.kept hk, ⟨_, rfl⟩, q⟩
theorem cr_max2T {X : Cx} (hc : X.calm = true) (hu : X.A.units + 65 < cLine) : CallR X (.builtin "max") (rMax2T X.K) := by
  intro pins s σ H vs us Q I r h
  obtain ⟨a, i, j, rfl, hs, q⟩ := h
  obtain ⟨its, rv, pl, _⟩ := I.tuple hs
  obtain ⟨as, ra⟩ := two_reads I rv
  rw [Vals.ref1 r]
  refine max_tuple_data (x := .int i) (xs := [.int j]) (I.ok.hd hc) pl (by simpa using ra) (alike2 i j) ?_ fun n v h' tk bs _ rd hk => ?_
  · have : PyData.depthAll [PyData.int i, PyData.int j] = 0 := by simp [PyData.depthAll, PyData.depth]
    omega
  · rw [show ([PyData.int j] : List PyData) = [j].map PyData.int from rfl, maxD_ints] at rd
    cases rd
    exact ⟨.int (max i j), H, I.kept hk, ⟨_, rfl⟩, q⟩
theorem minT_K (K : PySem.W.Frag) {X : Cx} {k : Nat} (hK : X.K = K) (hc : X.calm = true) (hr : Room k X.A) : CallR X (.builtin "min") (rMin2T K) := by
  subst hK
  have u := hr.un
  exact cr_min2T hc (by omega)
theorem maxT_K (K : PySem.W.Frag) {X : Cx} {k : Nat} (hK : X.K = K) (hc : X.calm = true) (hr : Room k X.A) : CallR X (.builtin "max") (rMax2T K) := by
  subst hK
  have u := hr.un
  exact cr_max2T hc (by omega)
section
variable {K : PySem.W.Frag} {env : List Sl} {ta tb : TE} {n : Bool}
theorem RpA.two {M : As} {H : Hp} {vs : List V} {i j : Int} (h : RpA K M H vs [.int i, .int j]) : vs = [.int i, .int j] := RpA.ints_inv (ns := [i, j]) h
theorem jv_minT {i j : Int} (ha : JU K ta env n [.int i, .int j]) : JV K (tCB (rMin2T K) (tCons ta tNil)) env (.int (min i j)) := jd_cb1 ha fun _ _ _ _ H1 _ _ ⟨a, vs, h1, h2, h3⟩ Q q => by
  have e := RpA.two h3
  subst e
  exact ⟨a, i, j, by rw [h1], SqT.of h2, q _ _ (Same.refl _) rfl⟩
theorem jv_maxT {i j : Int} (ha : JU K ta env n [.int i, .int j]) : JV K (tCB (rMax2T K) (tCons ta tNil)) env (.int (max i j)) := jd_cb1 ha fun _ _ _ _ H1 _ _ ⟨a, vs, h1, h2, h3⟩ Q q => by
  have e := RpA.two h3
  subst e
  exact ⟨a, i, j, by rw [h1], SqT.of h2, q _ _ (Same.refl _) rfl⟩
/-- xs.index(k) of ints, all different -/
theorem jv_index {ns : List Int} {k : Int} {j : Nat} (ha : JS K ta env n (ns.map PyData.int)) (hb : JV K tb env (.int k)) (hj : ns[j]? = some k) (hn : ∀ m z, m < j → ns[m]? = some z → z ≠ k) :
    JV K (tBM K "list" (rIndex K) ta (tCons tb tNil)) env (.int (j : Int)) := fun M B σ H Q w e q =>
  ha M B σ H _ w e fun x H1 s1 ⟨a, vs, h1, h2, h3⟩ => by
    have ev := RpA.ints_inv h3
    rw [h1]
    refine ⟨.inl ⟨rfl, vs, SqL.of h2⟩, ?_⟩
    refine hb M B σ H1 _ (w.ext s1) (e.ext s1) fun y H2 s2 p2 => ?_
    have ey : y = V.int k := p2
    rw [ey]
    refine ⟨a, vs, .int k, j, .int k, rfl, rfl, SqL.of (s2 _ _ h2), rfl, ?_, ?_, ?_, fun m z' hm hz => ?_, q _ _ (s1.trans s2) rfl⟩
    · rw [ev, List.all_map]
      exact List.all_eq_true.mpr fun _ _ => rfl
    · rw [ev, List.getElem?_map, hj]
      rfl
    · simp [eqV]
    · rw [ev, List.getElem?_map] at hz
      obtain ⟨z, hz1, hz2⟩ := Option.map_eq_some_iff.mp hz
      have := hn m z hm hz1
      rw [← hz2]
      simpa [eqV] using this
theorem RpA.rev {M : As} {H : Hp} : ∀ {vs : List V} {ds : List D}, RpA K M H vs ds → RpA K M H vs.reverse ds.reverse
  | _, _, .nil => .nil
  | _, _, .cons a t => by
    rw [List.reverse_cons, List.reverse_cons]
    exact (RpA.rev t).append (.cons a .nil)
theorem jn_rev {ds : List D} (ha : JS K ta env n ds) : JN K (tRevL K ta) env n ds.reverse := fun M B σ H Q w e q =>
  ha M B σ H _ w e fun x H1 s1 ⟨a, vs, h1, h2, h3⟩ => ⟨a, vs, h1, SqL.of h2, fun p hp => q _ _ (s1.trans (same_upd hp)) (jn_new w s1 hp h3.rev)⟩
theorem tg_three {i j k : Nat} {d1 d2 d3 : D} : TgOk K (gTup K 3 (gCons (gName i) (gCons (gName j) (gCons (gName k) gNil)))) (.tuple [d1, d2, d3]) n env (((env.set i (.val n d1)).set j (.val n d2)).set k (.val n d3)) [i, j, k] := ⟨fun M B σ H v Q e r q => by
  obtain ⟨a, vs, h1, h2, h3⟩ := Rp.tup_inv r
  cases h3 with
  | cons r1 h3 =>
    cases h3 with
    | cons r2 h3 =>
      cases h3 with
      | cons r3 h3 =>
        cases h3
        refine ⟨a, _, h1, SqT.of h2, rfl, _, _, rfl, _, _, rfl, _, _, rfl, rfl, ?_⟩
        refine q _ (((e.set (ov := some _) (s := .val n d1) ⟨_, rfl, r1⟩).set (ov := some _) (s := .val n d2) ⟨_, rfl, r2⟩).set (ov := some _) (s := .val n d3) ⟨_, rfl, r3⟩) (fun l hi => ?_) (by rw [List.length_set, List.length_set, List.length_set])
        rw [List.getElem?_set_ne (fun z => hi (by rw [z]; simp)), List.getElem?_set_ne (fun z => hi (by rw [z]; simp)), List.getElem?_set_ne (fun z => hi (by rw [z]; simp))], fun l m ds h => by
  obtain ⟨h1, n1⟩ := OwnSub.set l m ds h
  obtain ⟨h2, n2⟩ := OwnSub.set l m ds h1
  obtain ⟨h3, n3⟩ := OwnSub.set l m ds h2
  refine ⟨h3, fun z => ?_⟩
  rcases List.mem_cons.mp z with z | z
  · exact n3 (by rw [z]; exact List.mem_singleton.mpr rfl)
  · rcases List.mem_cons.mp z with z | z
    · exact n2 (by rw [z]; exact List.mem_singleton.mpr rfl)
    · exact n1 z⟩
end
open TT
section
variable {K : PySem.W.Frag}
theorem jd_without {env : List Sl} {te tk tl : TE} {n : Bool} {ts : List Tie} {j : Nat} (h : JS K te env n (ts.map tieD)) (hk : JV K tk env (.int (j : Int))) (hl : JV K tl env (.int ((j + 1 : Nat) : Int))) (hz : ts.length ≤ 100) :
    JN K (tOp rAddD (tSl (rSlL K) te tNoPart (tPart tk)) (tSl (rSlL K) te (tPart tl) tNoPart)) env n ((ts.eraseIdx j).map tieD) := by
  refine (jn_cat (ds := (ts.take j).map tieD) (es := (ts.drop (j + 1)).map tieD) ?_ ?_ (by simp; omega)).eqN ?_
  · refine ((jn_slice h jo_none (jo_some hk)).eqN ?_).nS
    rw [cutG_map]
    congr 1
    exact cutG_to ts j
  · refine ((jn_slice h (jo_some hl) jo_none).eqN ?_).nS
    rw [cutG_map]
    congr 1
    exact cutG_from ts (j + 1)
  · rw [← List.map_append, List.eraseIdx_eq_take_drop_succ]
end
end DL

namespace DL
open PySem L2 TT
theorem okD_nat {k : Nat} (p : Nat) : OkD k (natD p) := okD_int _
theorem okD_nats {k : Nat} (g : List Nat) : OkD (k + 1) (.list (g.map natD)) := okD_list fun d hd => by
  obtain ⟨i, _, rfl⟩ := List.mem_map.mp hd
  exact okD_int _
theorem mem_natD {p : Nat} {g : List Nat} : natD p ∈ g.map natD ↔ p ∈ g := ⟨fun h => by
  obtain ⟨q, hq, e⟩ := List.mem_map.mp h
  rw [← natD_inj e]; exact hq, fun h => List.mem_map_of_mem h⟩
theorem sum_cast : ∀ l : List Nat, (l.map fun x => ((x : Nat) : Int)).sum = (l.sum : Nat)
  | [] => rfl
  | x :: l => by rw [List.map_cons, List.sum_cons, List.sum_cons, sum_cast l]; omega
/-- lists of numbers -/
def numsD (s : List Nat) : D := .list (s.map natD)
theorem okD_nums {k : Nat} (s : List Nat) : OkD (k + 1) (numsD s) := okD_nats s
theorem okD_numss {k : Nat} (L : List (List Nat)) : OkD (k + 2) (.list (L.map numsD)) := okD_list fun d hd => by
  obtain ⟨s, _, rfl⟩ := List.mem_map.mp hd
  exact okD_nums s
theorem nats_inj {a b : List Nat} (h : a.map natD = b.map natD) : a = b := (List.map_inj_right fun _ _ e => natD_inj e).mp h
theorem nums_inj {a b : List Nat} (h : numsD a = numsD b) : a = b := nats_inj (PyData.list.inj h)
theorem numss_inj {a b : List (List Nat)} (h : a.map numsD = b.map numsD) : a = b := (List.map_inj_right fun _ _ e => nums_inj e).mp h
theorem pln_nums (s : List Nat) : pln (numsD s) = true := by
  show plns _ = true
  refine plns_of fun d hd => ?_
  obtain ⟨i, _, rfl⟩ := List.mem_map.mp hd
  rfl
/-! data without lists: the same off any set -/
mutual
def flt : D → Bool
  | .list _ => false
  | .dict _ => false
  | .tuple ds => flts ds
  | _ => true
def flts : List D → Bool
  | [] => true
  | d :: ds => flt d && flts ds
end
section
variable {K : PySem.W.Frag} {M M' : As} {H : Hp}
mutual
theorem Rp.flt : ∀ {v : V} {d : D}, flt d = true → Rp K M H v d → Rp K M' H v d
  | _, _, _, .non => .non
  | _, _, _, .bl b => .bl b
  | _, _, _, .int i => .int i
  | _, _, _, .str x => .str x
  | _, _, h, .lst _ _ _ => by simp [DL.flt] at h
  | _, _, h, .tup h2 h3 => .tup h2 (RpA.flt (by simpa [DL.flt] using h) h3)
  | _, _, h, .dct _ _ => by simp [DL.flt] at h
  | _, _, h, .scr _ => by simp [DL.flt] at h
theorem RpA.flt : ∀ {vs : List V} {ds : List D}, flts ds = true → RpA K M H vs ds → RpA K M' H vs ds
  | _, _, _, .nil => .nil
  | _, _, h, .cons h1 h2 => by
    simp only [flts, Bool.and_eq_true] at h
    exact .cons (Rp.flt h.1 h1) (RpA.flt h.2 h2)
end
end
theorem flts_of : ∀ {ds : List D}, (∀ d, d ∈ ds → flt d = true) → flts ds = true
  | [], _ => rfl
  | e :: ds, h => by
    simp only [flts, Bool.and_eq_true]
    exact ⟨h e List.mem_cons_self, flts_of fun d hd => h d (List.mem_cons_of_mem _ hd)⟩
theorem flt_nats (s : List Nat) : flts (s.map natD) = true := flts_of fun d hd => by
  obtain ⟨i, _, rfl⟩ := List.mem_map.mp hd
  rfl
theorem flt_ties (s : List Tie) : flts (s.map tieD) = true := flts_of fun d hd => by
  obtain ⟨i, _, rfl⟩ := List.mem_map.mp hd
  rfl
section
variable {K : PySem.W.Frag} {env : List Sl} {te : TE} {n m : Bool} {ds : List D} {d : D}
theorem Jd.flN (h : JN K te env n ds) (f : flts ds = true) : JN K te env m ds := h.imp fun M B H x H' w s ⟨a, vs, h1, h2, h3, h4⟩ => ⟨a, vs, h1, h2, h3, RpA.flt f h4⟩
theorem Jd.flS (h : JS K te env n ds) (f : flts ds = true) : JS K te env m ds := h.imp fun M B H x H' w s ⟨a, vs, h1, h3, h4⟩ => ⟨a, vs, h1, h3, RpA.flt f h4⟩
theorem Jd.flD (h : JD K te env n d) (f : flt d = true) : JD K te env m d := h.imp fun M B H x H' w s r => Rp.flt f r
theorem Jd.flD' {xs : List D} (h : JD K te env n (.list xs)) (f : flts xs = true) : JD K te env false (.list xs) := by
  cases n with
  | true => exact h.low
  | false => exact h
theorem jd_flD {i : Nat} (h : env[i]? = some (.val n d)) (f : flt d = true) : JD K (tVar i) env m d := (jd_var h).flD f
theorem jd_nat {i p : Nat} (h : env[i]? = some (.val n (natD p))) : JD K (tVar i) env m (natD p) := (jd_var h).flD rfl
end
section
variable {K : PySem.W.Frag} {env : List Sl} {te ta tb : TE} {tt : L2.TT} {n : Bool} {ds : List D} {d : D} {i : Nat}
/-- over range(a, b) -/
theorem jn_lcR2 {g : TG} {vs : List Nat} {a k : Int} (keep : Nat → Bool) (f : Nat → D) (ha : JV K ta env (.int a)) (hl : JV K tb env (.int k)) (hz : k ≤ 100000) (ha0 : 0 ≤ a) (ha1 : a ≤ 100000)
    (h0 : -100000 ≤ k) (hx : ∀ x, x < (k - a).toNat → ∃ env2, TgOk K g (.int (a + (x : Int))) true (wipeE env vs) env2 vs ∧ Jt K tt env2 (keep x) ∧ (keep x = true → JD K te env2 n (f x))) :
    JN K (tLc (iRng2 (tCons ta (tCons tb tNil))) g tt te vs) env n (((List.range (k - a).toNat).filter keep).map f) := fun M B σ H Q w e q =>
  ha M B σ H _ w e fun x0 H0 s0 p0 => hl M B σ H0 _ (w.ext s0) (e.ext s0) fun x H1 s1' p1 => by
    have e0 : x0 = V.int a := p0
    have e1 : x = V.int k := p1
    have s1 := s0.trans s1'
    rw [e0, e1]
    refine ⟨a, k, rfl, ⟨by omega, by omega, by omega, by omega⟩, fun Dl hD => ?_⟩
    refine lc_range (lo := a) (n := (k - a).toNat) (fun j H' => LcAt K M B H1 n Dl (kept keep f (List.range (k - a).toNat) j) H') (by unfold kept; rw [List.take_zero]; exact LcAt.start hD) (fun j H' hj L => ?_) (fun H' L => ?_)
    · obtain ⟨env2, tg, ht, he⟩ := hx j hj
      have e' : EnvOk K (fun a => M a ∨ a = Dl) (fun a => B a ∨ a = Dl) H' (L2.wipe σ vs) (wipeE env vs) := ((e.ext s1).add L.same hD).wipe vs
      refine tg.run _ _ (L2.wipe σ vs) H' (.int (a + (j : Int))) _ e' (.int _) fun σ2 e2 o2 l2 => ⟨?_, lc_turn (xs := List.range (k - a).toNat) (k := j) (List.getElem?_range hj) (by rw [List.length_range]; omega) (w.ext s1) L e2 ht he fun H2 L2 => L2⟩
      rw [wipe_eq l2 o2]
      exact wipe_eq (L2.wipe_length _ _) fun j hj => wipe_get hj
    · have e3 : kept keep f (List.range (k - a).toNat) (k - a).toNat = ((List.range (k - a).toNat).filter keep).map f := by
        have := kept_all (keep := keep) (f := f) (xs := List.range (k - a).toNat)
        rw [List.length_range] at this
        exact this
      rw [e3] at L
      exact q _ H' (s1.trans L.same) (L.pn s1)
theorem jn_mapR2 {g : TG} {vs : List Nat} {a k : Int} (f : Nat → D) (ha : JV K ta env (.int a)) (hl : JV K tb env (.int k)) (hz : k ≤ 100000) (ha0 : 0 ≤ a) (ha1 : a ≤ 100000)
    (h0 : -100000 ≤ k) (hx : ∀ x, x < (k - a).toNat → ∃ env2, TgOk K g (.int (a + (x : Int))) true (wipeE env vs) env2 vs ∧ JD K te env2 n (f x)) :
    JN K (tLc (iRng2 (tCons ta (tCons tb tNil))) g tYes te vs) env n ((List.range (k - a).toNat).map f) := by
  have h := jn_lcR2 (te := te) (tt := tYes) (n := n) (fun _ => true) f ha hl hz ha0 ha1 h0 fun x hm => let ⟨env2, h1, h2⟩ := hx x hm; ⟨env2, h1, jt_yes, fun _ => h2⟩
  rw [filter_true] at h
  exact h
theorem jv_isiS {T : String} {b : Bool} (ha : JS K ta env n ds) (hk : kitB "list" T = some b) : JV K (tCB (rIsi K) (tCons ta (tCons (tC (.ty T)) tNil))) env (.bl b) := fun M B σ H Q w e q =>
  ha M B σ H _ w e fun x H1 s1 ⟨a, vs, h1, h2, h3⟩ => ⟨x, .ty T, .type "list", .type T, b, rfl, .ty T, by rw [h1]; exact .base (.lst h2), kit_ty hk, q _ H1 s1 rfl⟩
theorem jv_m1 : JV K (tUn (rU fun i => .int (-i)) (tC (.int 1))) env (.int (-1)) := jv_U (g := fun i => .int (-i)) (j := 1) jv_c
theorem atI_lastD {α : Type} {xs : List α} {x : α} (h : xs.getLast? = some x) : atI xs (-1) = some x := by
  obtain ⟨ys, rfl⟩ := List.getLast?_eq_some_iff.mp h
  exact atI_last ys x
theorem jd_ixLast (ha : JS K ta env n ds) (hb : JV K tb env (.int (-1))) (h : ds.getLast? = some d) : JD K (tOp (rIx K) ta tb) env n d := jd_ixL ha hb (atI_lastD h)
end
section
variable {C : Ct} {env : List Sl} {n m : Bool} {d : D} {ds : List D} {i j : Nat} {te : TE} {tt : L2.TT} {t1 t2 u : TS} {D : Ends} {v : V}
/-- a test that looks at an owned list -/
theorem run_ifV {b : Bool} (hi : env[i]? = some (.own n ds)) (h : Jt C.K tt (env.set i (.val n (.list ds))) b) (k1 : b = true → Run C D (tSeq t1 u) env) (k2 : b = false → Run C D (tSeq t2 u) env) : Run C D (tSeq (tIfS tt t1 t2) u) env := fun L σ H g => by
  obtain ⟨L', g'⟩ := g.freeze hi
  refine h _ _ σ H _ g'.w g'.ok fun H' s => ?_
  cases b with
  | true => exact iteT (k1 rfl L σ H' (g.ext s))
  | false => exact iteF (k2 rfl L σ H' (g.ext s))
/-- a flat value found with a look at an owned list -/
theorem run_setVV (hi : env[i]? = some (.own n ds)) (h : JV C.K te (env.set i (.val n (.list ds))) v) (e : flatD d = some v) (k : Run C D u (env.set j (.val true d))) : Run C D (tSeq (tAsg te (gName j)) u) env := fun L σ H g => by
  obtain ⟨L', g'⟩ := g.freeze hi
  refine h _ _ σ H _ g'.w g'.ok fun w H' s p => ?_
  have p' : w = v := p
  rw [p']
  exact k L _ _ ((g.ext s).setVal (Rp.of_flat e))
end
end DL

/-! what is told, changed inside -/
namespace DL
open PySem L2 TT
theorem jd_ties {K : PySem.W.Frag} {env : List Sl} {n : Bool} {i : Nat} {ts : List Tie} (h : env[i]? = some (.val n (.list (ts.map tieD)))) : JD K (tVar i) env false (.list (ts.map tieD)) := by
  cases n with
  | true => exact (jd_var h).low
  | false => exact jd_var h
theorem shaped_bool (b : Bool) : SeqAt.shaped (.bool b) = true := by simp [SeqAt.shaped, PyData.canLay0, PyData.depth]
def weakS : Sl → Sl
  | .un => .un
  | .val _ d => .val false d
  | .own _ ds => .own false ds
def weakE (env : List Sl) : List Sl := env.map weakS
section
variable {K : PySem.W.Frag} {M M' B B' S : As} {H H' : Hp} {σ : L2.St} {env : List Sl}
theorem SlOk.weak (w : Wf M B H) {o : Option (Option V)} : ∀ {s : Sl}, SlOk K M B H o s → SlOk K M B' H o (weakS s)
  | .un, _ => trivial
  | .val true d, ⟨v, h1, h2⟩ => ⟨v, h1, (Keep.less w.sub).rp h2⟩
  | .val false d, ⟨v, h1, h2⟩ => ⟨v, h1, h2⟩
  | .own true ds, ⟨p, vs, h1, h2, h3, h4⟩ => ⟨p, vs, h1, h2, h3, (Keep.less w.sub).rpA h4⟩
  | .own false ds, ⟨p, vs, h1, h2, h3, h4⟩ => ⟨p, vs, h1, h2, h3, h4⟩
theorem EnvOk.weak (x : EnvOk K M B H σ env) (w : Wf M B H) : EnvOk K M B' H σ (weakE env) := by
  refine ⟨by unfold weakE; rw [List.length_map]; exact x.len, fun i s h => ?_⟩
  unfold weakE at h
  rw [List.getElem?_map] at h
  obtain ⟨t, ht, rfl⟩ := Option.map_eq_some_iff.mp h
  exact (x.sl i t ht).weak w
mutual
theorem Rp.inside (h0 : ∀ a, ¬ M a → ∀ xs, H a = some (.lst xs) → S a) : ∀ {v : V} {d : D}, noDict d = true → Rp K M H v d → Rp K (fun a => ¬ S a) H v d
  | _, _, _, .non => .non
  | _, _, _, .bl b => .bl b
  | _, _, _, .int i => .int i
  | _, _, _, .str x => .str x
  | _, _, h, .lst h1 h2 h3 => .lst (fun z => z (h0 _ h1 _ h2)) h2 (RpA.inside h0 (by simpa [noDict] using h) h3)
  | _, _, h, .tup h2 h3 => .tup h2 (RpA.inside h0 (by simpa [noDict] using h) h3)
  | _, _, h, .dct _ _ => by simp [noDict] at h
  | _, _, h, .scr _ => by simp [noDict] at h
theorem RpA.inside (h0 : ∀ a, ¬ M a → ∀ xs, H a = some (.lst xs) → S a) : ∀ {vs : List V} {ds : List D}, noDicts ds = true → RpA K M H vs ds → RpA K (fun a => ¬ S a) H vs ds
  | _, _, _, .nil => .nil
  | _, _, h, .cons h1 h2 => by
    simp only [noDicts, Bool.and_eq_true] at h
    exact .cons (Rp.inside h0 h.1 h1) (RpA.inside h0 h.2 h2)
end
end
section
variable {C : Ct} {L L' S : As} {env : List Sl} {σ : L2.St} {H H' : Hp} {i j : Nat} {d : D} {D : Ends} {u t1 t2 : TS} {tt : L2.TT} {te : TE}
/-- no owned list of a slot is in S -/
def Off (S : As) (env : List Sl) (σ : L2.St) : Prop := ∀ (k : Nat) n ds (p : Addr), env[k]? = some (.own n ds) → σ[k]? = some (some (.ref p)) → ¬ S p
theorem GoodL.grow (g : GoodL C L env σ H) (s : Same H H') (hS : ∀ a, S a → H a = none ∧ ∃ xs, H' a = some (.lst xs)) : GoodL C (fun a => L a ∨ S a) env σ H' := by
  refine ⟨g.b0, g.b1.trans s, g.wf, fun a h => ?_, ?_, g.di, fun k n ds p h1 h2 => .inl (g.ol k n ds p h1 h2)⟩
  · rcases h with h | h
    · obtain ⟨x, xs, y⟩ := g.lf a h
      exact ⟨x, xs, s _ _ y⟩
    · exact ⟨g.b1.free (hS a h).1, (hS a h).2⟩
  · refine g.ok.keep (fun p h xs q => ⟨h.imp_right .inl, s _ _ q⟩) fun n => .same s fun a m => ?_
    rw [sn_or] at m ⊢
    rcases m with m | m | m
    · exact .inl (.inl m)
    · exact .inl (.inr m)
    · exact .inr (hS a m).1
theorem GoodL.shrink (g : GoodL C L env σ H) (h : ∀ a, L' a → L a) (ho : ∀ (k : Nat) n ds (p : Addr), env[k]? = some (.own n ds) → σ[k]? = some (some (.ref p)) → L' p) : GoodL C L' env σ H := by
  refine ⟨g.b0, g.b1, g.wf, fun a z => g.lf a (h a z), ⟨g.ok.len, fun k s hk => ?_⟩, g.di, ho⟩
  have less : ∀ m : Bool, Keep (Sn m (fun a => C.M a ∨ L a) (fun a => C.B a ∨ L a)) (Sn m (fun a => C.M a ∨ L' a) (fun a => C.B a ∨ L' a)) H H := fun m => .less fun a z => by
    rw [sn_or] at z ⊢
    exact z.imp_right (h a)
  have q := g.ok.sl k s hk
  cases s with
  | un => trivial
  | val m d =>
    obtain ⟨v, v1, v2⟩ := q
    exact ⟨v, v1, (less m).rp v2⟩
  | own m fs =>
    obtain ⟨p, us, v1, v2, v3, v4⟩ := q
    exact ⟨p, us, v1, .inr (ho k m fs p hk v1), v3, (less m).rpA v4⟩
theorem GoodL.poke (g : GoodL C L env σ H) {a : Addr} (la : L a) (no : ∀ (k : Nat) n ds, env[k]? = some (.own n ds) → σ[k]? ≠ some (some (.ref a))) {ys : List V} : GoodL C L env σ (upd H a (.lst ys)) := by
  obtain ⟨hb, xs, hx⟩ := g.lf a la
  have km : ∀ k : Bool, Keep (Sn k (fun a => C.M a ∨ L a) (fun a => C.B a ∨ L a)) (Sn k (fun a => C.M a ∨ L a) (fun a => C.B a ∨ L a)) H (upd H a (.lst ys)) := fun k => .mut ((sn_or k _ _ _ _).mpr (.inr la)) hx
  refine ⟨g.b0, fun b o q => ?_, g.wf, fun b h => ?_, ⟨g.ok.len, fun k s hk => ?_⟩, g.di, g.ol⟩
  · rw [upd_ne (fun z => by rw [z, hb] at q; cases q)]
    exact g.b1 b o q
  · obtain ⟨x, zs, y⟩ := g.lf b h
    refine ⟨x, ?_⟩
    by_cases z : b = a
    · rw [z]; exact ⟨ys, upd_same⟩
    · exact ⟨zs, by rw [upd_ne z]; exact y⟩
  · have q := g.ok.sl k s hk
    cases s with
    | un => trivial
    | val m d =>
      obtain ⟨v, v1, v2⟩ := q
      exact ⟨v, v1, (km m).rp v2⟩
    | own m fs =>
      obtain ⟨p, us, v1, v2, v3, v4⟩ := q
      refine ⟨p, us, v1, v2, ?_, (km m).rpA v4⟩
      rw [upd_ne (fun z => no k m fs hk (by rw [v1, z]))]
      exact v3
theorem GoodL.setUn (g : GoodL C L env σ H) {ov : Option V} : GoodL C L (env.set i .un) (σ.set i ov) H := by
  have back : ∀ {k : Nat} {n : Bool} {ds : List DL.D}, (env.set i .un)[k]? = some (.own n ds) → i ≠ k ∧ env[k]? = some (.own n ds) := fun {k n ds} h => by
    by_cases z : i = k
    · subst z
      by_cases hi : i < env.length
      · rw [List.getElem?_set_self hi] at h; cases h
      · rw [List.getElem?_eq_none (by rw [List.length_set]; omega)] at h; cases h
    · rw [List.getElem?_set_ne z] at h
      exact ⟨z, h⟩
  refine ⟨g.b0, g.b1, g.wf, g.lf, g.ok.set trivial, fun k l p n m ds es h1 h2 h3 h4 => ?_, fun k n ds p h1 h2 => ?_⟩
  · obtain ⟨n1, e1⟩ := back h1
    obtain ⟨n2, e2⟩ := back h2
    rw [List.getElem?_set_ne n1] at h3
    rw [List.getElem?_set_ne n2] at h4
    exact g.di k l p n m ds es e1 e2 h3 h4
  · obtain ⟨n1, e1⟩ := back h1
    rw [List.getElem?_set_ne n1] at h2
    exact g.ol k n ds p e1 h2
/-- slot i holds what is told, new through and through -/
def RunT (C : Ct) (D : Ends) (t : TS) (env : List Sl) (i : Nat) (d : DL.D) : Prop := ∀ L σ H S v, GoodL C L (env.set i .un) σ H → (∀ a, S a → L a) → Off S (env.set i .un) σ → σ[i]? = some (some v) → Rp C.K (fun a => ¬ S a) H v d → t D σ H
theorem run_tree (h : JD C.K te (weakE env) true d) (nd : noDict d = true) (hi : i < env.length) (k : RunT C D u env i d) : Run C D (tSeq (tAsg te (gName i)) u) env := fun L σ H g => by
  have w : Wf (fun a => C.M a ∨ L a) (fun a => H a ≠ none) H := ⟨g.w.trkM, fun a h => h⟩
  refine h (fun a => C.M a ∨ L a) (fun a => H a ≠ none) σ H _ w (g.ok.weak g.w) fun v H' s r => ?_
  have g1 := g.grow (S := fun a => H a = none ∧ ∃ xs, H' a = some (.lst xs)) s fun a z => z
  have len : i < σ.length := by rw [g.ok.len]; exact hi
  refine k _ (σ.set i (some v)) H' (fun a => H a = none ∧ ∃ xs, H' a = some (.lst xs)) v g1.setUn (fun a z => .inr z) (fun k n ds p h1 h2 => ?_) (List.getElem?_set_self len) ?_
  · by_cases z : i = k
    · subst z
      rw [List.getElem?_set_self hi] at h1
      cases h1
    · rw [List.getElem?_set_ne z] at h1 h2
      obtain ⟨p', us, e1, _, e3, _⟩ := g.ok.sl k _ h1
      rw [h2] at e1
      cases e1
      exact fun q => by rw [q.1] at e3; cases e3
  · have r' : Rp C.K (fun a => H a ≠ none) H' v d := r
    exact Rp.inside (fun a na xs hx => ⟨Classical.byContradiction na, xs, hx⟩) nd r'
theorem RunT.view {S : As} {v : V} (g : GoodL C L (env.set i .un) σ H) (hS : ∀ a, S a → L a) (ho : Off S (env.set i .un) σ) (hv : σ[i]? = some (some v)) (r : Rp C.K (fun a => ¬ S a) H v d) : GoodL C (fun a => L a ∧ ¬ S a) (env.set i (.val true d)) σ H := by
  have g1 : GoodL C (fun a => L a ∧ ¬ S a) (env.set i .un) σ H := g.shrink (fun a z => z.1) fun k n ds p h1 h2 => ⟨g.ol k n ds p h1 h2, ho k n ds p h1 h2⟩
  have r2 : Rp C.K (Sn true (fun a => C.M a ∨ (L a ∧ ¬ S a)) (fun a => C.B a ∨ (L a ∧ ¬ S a))) H v d := (Keep.less fun a z => by
    rw [sn_or] at z
    rcases z with z | z
    · exact fun q => g.noL (hS a q) true z
    · exact z.2).rp r
  have q := g1.setVal (i := i) r2
  rw [List.set_set] at q
  have e : σ.set i (some v) = σ := List.ext_getElem? fun k => by
    by_cases z : i = k
    · subst z
      rw [hv]
      exact List.getElem?_set_self (List.getElem?_eq_some_iff.mp hv).1
    · rw [List.getElem?_set_ne z]
  rw [e] at q
  exact q
theorem runT_if {b : Bool} (h : Jt C.K tt (env.set i (.val true d)) b) (k1 : b = true → Run C D (tSeq t1 u) (env.set i .un)) (k2 : b = false → RunT C D (tSeq t2 u) env i d) : RunT C D (tSeq (tIfS tt t1 t2) u) env i d := fun L σ H S v g hS ho hv r => by
  have gv := RunT.view g hS ho hv r
  refine h _ _ σ H _ gv.w gv.ok fun H' s => ?_
  cases b with
  | true => exact iteT (k1 rfl L σ H' (g.ext s))
  | false => exact iteF (k2 rfl L σ H' S v (g.ext s) hS ho hv ((Keep.ext s).rp r))
theorem runT_next (h : RunT C D u env i d) : RunT C D (tSeq tNext u) env i d := h
/-- it may be let go, too -/
theorem runT_val (k : Run C D u (env.set i (.val true d))) : RunT C D u env i d := fun L σ H S v g hS ho hv r => k _ σ H (RunT.view g hS ho hv r)
theorem runT_un (k : Run C D u (env.set i .un)) : RunT C D u env i d := fun L σ H S v g hS ho hv r => k _ σ H g
/-- a list of lists of ints, some of them longer than told -/
structure Junk (S : As) (H : Hp) (p : Addr) (vs : List V) (n : Nat) : Prop where
  sp : S p
  at_ : H p = some (.lst vs)
  all : ∀ v, v ∈ vs → ∃ (a : Addr) (ns : List Int), v = .ref a ∧ S a ∧ H a = some (.lst (ns.map V.int)) ∧ ns.length ≤ n
theorem Junk.ne {S : As} {p a : Addr} {vs : List V} {n : Nat} (J : Junk S H p vs n) (h : V.ref a ∈ vs) : a ≠ p := fun z => by
  obtain ⟨b, ns, e, _, e2, _⟩ := J.all _ h
  cases e
  rw [z, J.at_] at e2
  cases e2
  obtain ⟨y, _, e⟩ := List.mem_map.mp h
  cases e
theorem RpA.mem {K : PySem.W.Frag} {M : As} : ∀ {vs : List V} {ds : List DL.D}, RpA K M H vs ds → ∀ v, v ∈ vs → ∃ d, d ∈ ds ∧ Rp K M H v d
  | _, _, .nil, _, h => nomatch h
  | _, _, .cons h1 h2, v, h => by
    rcases List.mem_cons.mp h with z | z
    · rw [z]; exact ⟨_, List.mem_cons_self, h1⟩
    · obtain ⟨d, hd, r⟩ := RpA.mem h2 v z
      exact ⟨d, List.mem_cons_of_mem _ hd, r⟩
/-- each list in it is looked at, then has a number more -/
theorem runT_for {c : Int} {t1 : TS} {N0 : Nat} (dss : List (List Int)) (hl : ∀ ns, ns ∈ dss → ns.length ≤ N0) (hz : dss.length + N0 ≤ 90000) (hd : d = .list (dss.map fun ns => .list (ns.map .int))) (hi : i < env.length) (hij : i ≠ j) (hj : j < env.length)
    (hs : ∀ ns : List Int, ns.length ≤ 90000 → Jt C.K tt ((env.set i .un).set j (.val true (.list (ns.map .int)))) false)
    (k : ∀ es : List DL.D, es.length = dss.length → Run C D u ((env.set i (.own true es)).set j .un)) :
    RunT C D (tSeq (tFor (iList C.K (tVar i)) (gName j) (tSeq (tIfS tt t1 tNext) (tDrop (tBM C.K "list" rAppend (tVar j) (tCons (tC (.int c)) tNil))))) u) env i d := fun L σ H S v g hS ho hv r => by
  subst hd
  obtain ⟨p, vs, rfl, np, hp, rA⟩ := Rp.list_inv r
  have lv : vs.length = dss.length := by rw [rA.length, List.length_map]
  have J0 : Junk S H p vs N0 := ⟨Classical.not_not.mp np, hp, fun v hv => by
    obtain ⟨d, hd, rd⟩ := RpA.mem rA v hv
    obtain ⟨ns, hn, rfl⟩ := List.mem_map.mp hd
    obtain ⟨a, us, rfl, na, ha, ra⟩ := Rp.list_inv rd
    rw [RpA.ints_inv ra] at ha
    exact ⟨a, ns, rfl, Classical.not_not.mp na, ha, hl ns hn⟩⟩
  refine ⟨.ref p, hv, p, rfl, ⟨vs, SqL.of hp⟩, ?_⟩
  refine for_list (K := C.K) (a := p) (xs := vs) (fun n σ' H' => GoodL C L ((env.set i .un).set j .un) σ' H' ∧ Off S ((env.set i .un).set j .un) σ' ∧ σ'[i]? = some (some (.ref p)) ∧ Junk S H' p vs (N0 + n)) ⟨?_, ?_, hv, J0⟩ (fun n σ' H' _ h => SqL.of h.2.2.2.at_) (fun n v σ' H' hn h => ?_) (fun σ' H' h => ?_)
  · have q := g.weak (env' := (env.set i .un).set j .un) ⟨by rw [List.length_set], fun k s hk => by
      by_cases z : j = k
      · subst z
        rw [List.getElem?_set_self (by rw [List.length_set]; exact hj)] at hk
        exact .inl (Option.some.inj hk).symm
      · rw [List.getElem?_set_ne z] at hk
        exact .inr hk⟩
    exact q
  · intro k n ds q h1 h2
    by_cases z : j = k
    · subst z
      rw [List.getElem?_set_self (by rw [List.length_set]; exact hj)] at h1
      cases h1
    · rw [List.getElem?_set_ne z] at h1
      exact ho k n ds q h1 h2
  · obtain ⟨g', o', vi, J⟩ := h
    have hv' := List.mem_of_getElem? hn
    obtain ⟨a, ns, rfl, sa, ha, nl⟩ := J.all v hv'
    have nlt : n < vs.length := (List.getElem?_eq_some_iff.mp hn).1
    have lj : j < σ'.length := by
      rw [g'.ok.len, List.length_set, List.length_set]
      exact hj
    have g2 : GoodL C L ((env.set i .un).set j .un) (σ'.set j (some (.ref a))) H' := by
      have q := g'.setUn (i := j) (ov := some (.ref a))
      rw [List.set_set] at q
      exact q
    have o2 : Off S ((env.set i .un).set j .un) (σ'.set j (some (.ref a))) := fun k n ds q h1 h2 => by
      by_cases z : j = k
      · subst z
        rw [List.getElem?_set_self (by rw [List.length_set]; exact hj)] at h1
        cases h1
      · rw [List.getElem?_set_ne z] at h2
        exact o' k n ds q h1 h2
    have vj : (σ'.set j (some (V.ref a)))[j]? = some (some (.ref a)) := List.getElem?_set_self lj
    have gv := RunT.view (env := env.set i .un) (i := j) (d := .list (ns.map PyData.int)) g2 hS o2 vj (.lst (fun z => z sa) ha (RpA.ints ns))
    show (gName j) (.ref a) σ' H' _
    refine hs ns (by omega) _ _ _ H' _ gv.w gv.ok fun H2 s2 => iteF ?_
    have g3 := g2.ext s2
    have ha2 : H2 a = some (.lst (ns.map V.int)) := s2 _ _ ha
    refine ⟨.ref a, vj, .inl ⟨rfl, _, SqL.of ha2⟩, ?_⟩
    refine ⟨a, ns.map V.int, .int c, rfl, rfl, ha2, szl' (by rw [List.length_map]; omega), ?_⟩
    refine ⟨g3.poke (hS a sa) (fun k n ds h1 h2 => o2 k n ds a h1 h2 sa), o2, by rw [List.getElem?_set_ne (fun z => hij z.symm)]; exact vi, ?_⟩
    have ap := J.ne hv'
    refine ⟨J.sp, by rw [upd_ne (fun z => ap z.symm)]; exact s2 _ _ J.at_, fun w hw => ?_⟩
    obtain ⟨b, ms, rfl, sb, hb, ml⟩ := J.all w hw
    by_cases z : b = a
    · subst z
      refine ⟨b, ns ++ [c], rfl, sb, by rw [upd_same, List.map_append]; rfl, by rw [List.length_append, List.length_singleton]; omega⟩
    · exact ⟨b, ms, rfl, sb, by rw [upd_ne z]; exact s2 _ _ hb, by omega⟩
  · obtain ⟨g', o', vi, J⟩ := h
    have ex : ∃ es : List DL.D, RpA C.K (fun a => C.B a ∨ (L a ∧ ¬ S a ∨ a = p)) H' vs es := by
      have all := J.all
      have ne := fun a (h : V.ref a ∈ vs) => J.ne h
      generalize N0 + vs.length = bound at all
      clear J hp rA lv J0 hv r
      induction vs with
      | nil => exact ⟨[], .nil⟩
      | cons w vs ih =>
        obtain ⟨es, r⟩ := ih (fun a ha => ne a (List.mem_cons_of_mem _ ha)) fun v hv => all v (List.mem_cons_of_mem _ hv)
        obtain ⟨a, ns, rfl, sa, ha, _⟩ := all w List.mem_cons_self
        refine ⟨.list (ns.map .int) :: es, .cons (.lst (fun z => ?_) ha (RpA.ints ns)) r⟩
        rcases z with z | z | z
        · exact g.noL (hS a sa) true z
        · exact z.2 sa
        · exact ne a List.mem_cons_self z
    obtain ⟨es, re⟩ := ex
    have lp := hS p J.sp
    have g1 : GoodL C (fun a => (L a ∧ ¬ S a) ∨ a = p) ((env.set i .un).set j .un) σ' H' := g'.shrink (fun a z => z.elim (fun y => y.1) fun y => y ▸ lp) fun k n ds q h1 h2 => .inl ⟨g'.ol k n ds q h1 h2, o' k n ds q h1 h2⟩
    have parts : ∀ {k : Nat} {s : Sl}, ((env.set i (.own true es)).set j .un)[k]? = some s → (k = i ∧ s = .own true es) ∨ (k ≠ i ∧ ((env.set i .un).set j .un)[k]? = some s) := fun {k s} hk => by
      by_cases zj : j = k
      · subst zj
        rw [List.getElem?_set_self (by rw [List.length_set]; exact hj)] at hk ⊢
        exact .inr ⟨fun z => hij z.symm, hk⟩
      · rw [List.getElem?_set_ne zj] at hk ⊢
        by_cases zi : i = k
        · subst zi
          rw [List.getElem?_set_self hi] at hk
          exact .inl ⟨rfl, (Option.some.inj hk).symm⟩
        · rw [List.getElem?_set_ne zi] at hk ⊢
          exact .inr ⟨fun z => zi z.symm, hk⟩
    refine k es (by rw [← lv, re.length]) _ σ' H' ⟨g1.b0, g1.b1, g1.wf, g1.lf, ⟨by have := g1.ok.len; simp only [List.length_set] at this ⊢; exact this, fun k s hk => ?_⟩, fun k l q n m ds fs h1 h2 h3 h4 => ?_, fun k n ds q h1 h2 => ?_⟩
    · rcases parts hk with ⟨e1, e2⟩ | ⟨_, e⟩
      · subst e1 e2
        exact ⟨p, vs, vi, .inr (.inr rfl), J.at_, re⟩
      · exact g1.ok.sl k s e
    · rcases parts h1 with ⟨e1, e2⟩ | ⟨n1, e1⟩ <;> rcases parts h2 with ⟨f1, f2⟩ | ⟨n2, f1⟩
      · rw [e1, f1]
      · rw [e1, vi] at h3
        cases h3
        exact absurd J.sp (o' l m fs p f1 h4)
      · rw [f1, vi] at h4
        cases h4
        exact absurd J.sp (o' k n ds p e1 h3)
      · exact g1.di k l q n m ds fs e1 f1 h3 h4
    · rcases parts h1 with ⟨e1, e2⟩ | ⟨_, e⟩
      · rw [e1, vi] at h2
        cases h2
        exact .inr rfl
      · exact g1.ol k n ds q e h2
end
end DL

/-! a table whose rows are changed in their places -/
namespace DL
open PySem L2 TT
/-- at p a list of the rows at as, all unlike -/
structure TabAt (H : Hp) (p : Addr) (as : List Addr) (R : List (List Int)) : Prop where
  nd : (p :: as).Nodup
  at_ : H p = some (.lst (as.map V.ref))
  len : as.length = R.length
  row : ∀ (k : Nat) (a : Addr), as[k]? = some a → H a = some (.lst ((R.getD k []).map V.int))
section
variable {C : Ct} {L L' S : As} {env env' : List Sl} {σ : L2.St} {H H' : Hp} {i j : Nat} {d : D} {D : Ends} {u t1 t2 : TS} {tt : L2.TT} {te tk1 tk2 : TE} {R : List (List Int)} {α : Type}
def StR (C : Ct) (env : List Sl) (i : Nat) (R : List (List Int)) (σ : L2.St) (H : Hp) : Prop := ∃ (L : As) (p : Addr) (as : List Addr), GoodL C L (env.set i .un) σ H ∧ (∀ a, a ∈ p :: as → L a) ∧ Off (fun a => a ∈ p :: as) (env.set i .un) σ ∧ σ[i]? = some (some (.ref p)) ∧ TabAt H p as R
def RunR (C : Ct) (D : Ends) (t : TS) (env : List Sl) (i : Nat) (R : List (List Int)) : Prop := ∀ σ H, StR C env i R σ H → t D σ H
theorem TabAt.ext {p : Addr} {as : List Addr} (T : TabAt H p as R) (s : Same H H') : TabAt H' p as R := ⟨T.nd, s _ _ T.at_, T.len, fun k a h => s _ _ (T.row k a h)⟩
theorem TabAt.rp {K : PySem.W.Frag} {p : Addr} {as : List Addr} (T : TabAt H p as R) : Rp K (fun a => ¬ a ∈ p :: as) H (.ref p) (rowsD R) := by
  refine .lst (fun z => z List.mem_cons_self) T.at_ ?_
  have row := T.row
  have len := T.len
  have go : ∀ (bs : List Addr) (Q : List (List Int)), bs.length = Q.length → (∀ b, b ∈ bs → b ∈ as) → (∀ (k : Nat) (a : Addr), bs[k]? = some a → H a = some (.lst ((Q.getD k []).map V.int))) → RpA K (fun a => ¬ a ∈ p :: as) H (bs.map V.ref) (Q.map rowD) := fun bs => by
    induction bs with
    | nil =>
      intro Q hl _ _
      cases Q with
      | nil => exact .nil
      | cons r Q => cases hl
    | cons b bs ih =>
      intro Q hl hm hr
      cases Q with
      | nil => cases hl
      | cons r Q =>
        refine .cons (.lst (fun z => z (List.mem_cons_of_mem _ (hm b List.mem_cons_self))) (hr 0 b rfl) (RpA.ints r)) (ih Q (by simpa using hl) (fun c hc => hm c (List.mem_cons_of_mem _ hc)) fun k a h => ?_)
        have := hr (k + 1) a (by simpa using h)
        simpa using this
  exact go as R len (fun b h => h) row
theorem StR.ext (x : StR C env i R σ H) (s : Same H H') : StR C env i R σ H' := by
  obtain ⟨L, p, as, g, h1, h2, h3, T⟩ := x
  exact ⟨L, p, as, g.ext s, h1, h2, h3, T.ext s⟩
theorem StR.view (x : StR C env i R σ H) : ∃ L, GoodL C L (env.set i (.val true (rowsD R))) σ H := by
  obtain ⟨L, p, as, g, h1, h2, h3, T⟩ := x
  exact ⟨_, RunT.view g h1 h2 h3 T.rp⟩
theorem runR_if {b : Bool} (h : Jt C.K tt (env.set i (.val true (rowsD R))) b) (k1 : b = true → RunR C D (tSeq t1 u) env i R) (k2 : b = false → RunR C D (tSeq t2 u) env i R) : RunR C D (tSeq (tIfS tt t1 t2) u) env i R := fun σ H x => by
  obtain ⟨L, g⟩ := x.view
  refine h _ _ σ H _ g.w g.ok fun H' s => ?_
  cases b with
  | true => exact iteT (k1 rfl σ H' (x.ext s))
  | false => exact iteF (k2 rfl σ H' (x.ext s))
theorem runR_next (h : RunR C D u env i R) : RunR C D (tSeq tNext u) env i R := h
theorem runR_one {t : TS} (h : RunR C D (tSeq t tNext) env i R) : RunR C D t env i R := h
theorem runR_assoc {t1 t2 : TS} (h : RunR C D (tSeq t1 (tSeq t2 u)) env i R) : RunR C D (tSeq (tSeq t1 t2) u) env i R := h
theorem getD_at {as : List Addr} {k : Nat} {a : Addr} (h : as[k]? = some a) : k < as.length := (List.getElem?_eq_some_iff.mp h).1
/-- rows[x][y] = e -/
theorem runR_put {z x y : Int} {r c : Nat} (he : JV C.K te (env.set i (.val true (rowsD R))) (.int z)) (hi : i < env.length) (h1 : JV C.K tk1 (env.set i (.val true (rowsD R))) (.int x)) (h2 : JV C.K tk2 (env.set i (.val true (rowsD R))) (.int y)) (hx : x = (r : Int)) (hy : y = (c : Int)) (hr : r < R.length) (hc : c < (R.getD r []).length)
    (k : RunR C D u env i (R.set r ((R.getD r []).set c z))) : RunR C D (tSeq (tAsg te (gSub (tOp (rIx C.K) (tVar i) tk1) tk2 rSetL)) u) env i R := fun σ H st => by
  obtain ⟨L0, g0⟩ := st.view
  refine he _ _ σ H _ g0.w g0.ok fun v H1 s1 ev => ?_
  have ev' : v = V.int z := ev
  have st1 := st.ext s1
  obtain ⟨L, p, as, g, l1, o1, v1, T⟩ := id st1
  refine ⟨.ref p, v1, ?_⟩
  obtain ⟨L1, g1⟩ := st1.view
  refine h1 _ _ σ H1 _ g1.w g1.ok fun w H2 s2 ew => ?_
  have ew' : w = V.int x := ew
  rw [ew', hx]
  have T2 := T.ext s2
  have ra : r < as.length := by rw [T.len]; exact hr
  obtain ⟨a, ha⟩ : ∃ a, as[r]? = some a := ⟨_, List.getElem?_eq_getElem ra⟩
  have hA := T2.row r a ha
  refine .inl ⟨p, as.map V.ref, (r : Int), .ref a, rfl, rfl, SqL.of T2.at_, atI_nat (by rw [List.getElem?_map, ha]; rfl), ?_⟩
  have st2 := st1.ext s2
  obtain ⟨L2', g2⟩ := st2.view
  refine h2 _ _ σ H2 _ g2.w g2.ok fun w2 H3 s3 ew2 => ?_
  have ew2' : w2 = V.int y := ew2
  rw [ew2', hy, ev']
  have T3 := T2.ext s3
  have hA3 := T3.row r a ha
  have g3 := (g.ext s2).ext s3
  have am : a ∈ p :: as := List.mem_cons_of_mem _ (List.mem_of_getElem? ha)
  have nd := List.nodup_cons.mp T.nd
  have ap : a ≠ p := fun e => nd.1 (e ▸ List.mem_of_getElem? ha)
  refine ⟨a, (R.getD r []).map V.int, (c : Int), c, rfl, rfl, hA3, ?_, ?_⟩
  · unfold ixN
    rw [List.length_map, if_pos (by omega), if_pos (by omega)]
    simp
  · refine k σ _ ⟨L, p, as, g3.poke (l1 a am) (fun k n ds e1 e2 => o1 k n ds a e1 e2 am), l1, o1, v1, T.nd, by rw [upd_ne (fun z => ap z.symm)]; exact T3.at_, by rw [List.length_set]; exact T.len, fun k b hb => ?_⟩
    by_cases e : k = r
    · subst e
      rw [ha] at hb
      cases hb
      rw [upd_same, getD_set_same hr, ← List.map_set]
    · have ne : b ≠ a := fun z => by
        subst z
        obtain ⟨q1, q2⟩ := List.getElem?_eq_some_iff.mp hb
        obtain ⟨q3, q4⟩ := List.getElem?_eq_some_iff.mp ha
        have pw := List.pairwise_iff_getElem.mp nd.2
        rcases Nat.lt_or_ge k r with l | l
        · exact pw k r q1 q3 l (q2.trans q4.symm)
        · exact pw r k q3 q1 (by omega) (q4.trans q2.symm)
      rw [upd_ne ne, getD_set_ne e]
      exact T3.row k b hb
theorem StR.rebase (x : StR C env i R σ H) : ∃ hb, StR (C.re hb) env i R σ H ∧ Same C.Hb hb ∧ (∀ L, GoodL C L (env.set i .un) σ H → True) := by
  obtain ⟨L, p, as, g, h1, h2, h3, T⟩ := x
  obtain ⟨gb, sb⟩ := g.rebase
  exact ⟨_, ⟨L, p, as, gb, h1, h2, h3, T⟩, sb, fun _ _ => trivial⟩
theorem StR.weak (x : StR C env i R σ H) (h : LessI (env'.set i .un) (env.set i .un)) : StR C env' i R σ H := by
  obtain ⟨L, p, as, g, h1, h2, h3, T⟩ := x
  refine ⟨L, p, as, g.weak h.less, h1, fun k n ds q e1 e2 => ?_, h3, T⟩
  rcases h.less.2 k _ e1 with z | z
  · cases z
  · exact h2 k n ds q z e2
def LoopR (C : Ct) (i : Nat) (I : Nat → List Sl → List (List Int) → Prop) (k : Nat) : L2.St → Hp → Prop := fun σ H => ∃ env3 R3, I k env3 R3 ∧ StR C env3 i R3 σ H
/-- over a list, the table changed -/
theorem runR_forL {g : TG} {tb : TS} {n0 : Bool} {enc : α → DL.D} (xs : List α) (I : Nat → List Sl → List (List Int) → Prop) (hl : JD C.K te (env.set i .un) n0 (.list (xs.map enc))) (h0 : I 0 env R)
    (hs : ∀ hb k x env1 R1, xs[k]? = some x → I k env1 R1 → ∃ env2 js, TgOk C.K g (enc x) n0 (env1.set i .un) (env2.set i .un) js ∧ i ∉ js ∧ RunR (C.re hb) { D with nx := LoopR (C.re hb) i I (k + 1), ct := LoopR (C.re hb) i I (k + 1), bk := u D } tb env2 i R1)
    (he : ∀ env1 R1, I xs.length env1 R1 → RunR C D u env1 i R1) : RunR C D (tSeq (tFor (iList C.K te) g tb) u) env i R := fun σ H st => by
  obtain ⟨L, p, as, gd, l1, o1, v1, T⟩ := st
  refine hl _ _ σ H _ gd.w gd.ok fun v H1 s1 r1 => ?_
  have g1 := gd.ext s1
  have T1 := T.ext s1
  obtain ⟨a, us, e1, e2, e3, e4⟩ := Rp.list_inv r1
  have hlen : us.length = xs.length := by rw [e4.length, List.length_map]
  obtain ⟨gb, sb⟩ := g1.rebase
  have na : ¬ L a := fun z => e2 ((sn_or n0 _ _ _ _).mpr (.inr z))
  have ha : hideL L H1 a = some (.lst us) := by rw [hideL_out na]; exact e3
  refine ⟨a, e1, ⟨us, SqL.of e3⟩, ?_⟩
  refine for_list (K := C.K) (a := a) (xs := us) (fun k => LoopR (C.re (hideL L H1)) i I k) ⟨env, R, h0, L, p, as, gb, l1, o1, v1, T1⟩ (fun k σ' H' _ ⟨_, _, _, st'⟩ => ?_) (fun k v σ' H' hk ⟨env1, R1, i1, st'⟩ => ?_) (fun σ' H' ⟨env1, R1, i1, st'⟩ => ?_)
  · obtain ⟨_, _, _, g', _⟩ := st'
    exact SqL.of (g'.b1 _ _ ha)
  · have hk' : k < xs.length := by rw [← hlen]; exact (List.getElem?_eq_some_iff.mp hk).1
    have hx := List.getElem?_eq_getElem hk'
    obtain ⟨env2, js, tg, ij, run⟩ := hs (hideL L H1) k _ env1 R1 hx i1
    obtain ⟨d, hd, rd⟩ := e4.getV hk
    have ed : d = enc xs[k] := by
      rw [List.getElem?_map, hx] at hd
      exact (Option.some.inj hd).symm
    rw [ed] at rd
    obtain ⟨L1, p1, as1, g', l1', o1', v1', T1'⟩ := st'
    have k1 : Keep (Sn n0 (fun a => C.M a ∨ L a) (fun a => C.B a ∨ L a)) (Sn n0 (fun a => C.M a ∨ L a) (fun a => C.B a ∨ L a)) H1 (hideL L H1) := .hide (fun b z => (sn_or n0 _ _ _ _).mpr (.inr z)) fun b z => (g1.lf b z).2
    have k2 : Keep (Sn n0 (fun a => C.M a ∨ L a) (fun a => C.B a ∨ L a)) (Sn n0 (fun a => C.M a ∨ L1 a) (fun a => C.B a ∨ L1 a)) (hideL L H1) H' := .same g'.b1 fun b z => by
      rw [sn_or] at z ⊢
      rcases z with z | z
      · exact .inl (.inl z)
      · exact .inr (g'.lf b z).1
    refine tg.run _ _ σ' H' v _ g'.ok ((k1.trans k2).rp rd) fun σ2 ok2 o2 l2 => ?_
    have own2 : ∀ (k : Nat) n ds (q : Addr), (env2.set i .un)[k]? = some (.own n ds) → σ2[k]? = some (some (.ref q)) → (env1.set i .un)[k]? = some (.own n ds) ∧ σ'[k]? = some (some (.ref q)) := fun k n ds q a1 a2 => by
      obtain ⟨b1, b2⟩ := tg.own k n ds a1
      rw [o2 k b2] at a2
      exact ⟨b1, a2⟩
    refine run σ2 H' ⟨L1, p1, as1, ⟨g'.b0, g'.b1, g'.wf, g'.lf, ok2, fun k l q n m ds es a1 a2 a3 a4 => ?_, fun k n ds q a1 a2 => ?_⟩, l1', fun k n ds q a1 a2 => ?_, by rw [o2 i ij]; exact v1', T1'⟩
    · obtain ⟨c1, c3⟩ := own2 k n ds q a1 a3
      obtain ⟨c2, c4⟩ := own2 l m es q a2 a4
      exact g'.di k l q n m ds es c1 c2 c3 c4
    · obtain ⟨c1, c2⟩ := own2 k n ds q a1 a2
      exact g'.ol k n ds q c1 c2
    · obtain ⟨c1, c2⟩ := own2 k n ds q a1 a2
      exact o1' k n ds q c1 c2
  · rw [hlen] at i1
    obtain ⟨L1, p1, as1, g', l1', o1', v1', T1'⟩ := st'
    exact he env1 R1 i1 σ' H' ⟨L1, p1, as1, g'.up g1.b0 sb, l1', o1', v1', T1'⟩
theorem runR_loop {I : Nat → List Sl → List (List Int) → Prop} {k : Nat} {r : VK} {bk ct : L2.St → Hp → Prop} (h : I k env' R) (w : LessI (env'.set i .un) (env.set i .un)) : RunR C { nx := LoopR C i I k, rt := r, bk := bk, ct := ct } tNext env i R := fun σ H st => ⟨env', R, h, st.weak w⟩
theorem runR_val (h : Run C D u (env.set i (.val true (rowsD R)))) : RunR C D u env i R := fun σ H st => by
  obtain ⟨L, g⟩ := st.view
  exact h L σ H g
end
/-- rows made anew, one by one -/
def pTab (R : List (List Int)) : Po := fun M B H x H' => ∃ (p : Addr) (as : List Addr), x = .ref p ∧ (∀ a, a ∈ p :: as → H a = none) ∧ TabAt H' p as R
section
variable {K : PySem.W.Frag} {env : List Sl} {tn te : TE}
theorem jd_tabR {g : TG} {vs : List Nat} {k : Int} (f : Nat → List Int) (hl : JV K tn env (.int k)) (hz : k ≤ 100000) (h0 : 0 ≤ k)
    (hx : ∀ x, x < k.toNat → ∃ env2, TgOk K g (natD x) true (wipeE env vs) env2 vs ∧ JN K te env2 true ((f x).map PyData.int)) :
    Jd K (tLc (iRng1 (tCons tn tNil)) g tYes te vs) env (pTab ((List.range k.toNat).map f)) := fun M B σ H Q w e q =>
  hl M B σ H _ w e fun x H1 s1 p1 => by
    have e1 : x = V.int k := p1
    rw [e1]
    refine ⟨k, rfl, by omega, by omega, fun Dl hD => ?_⟩
    refine lc_range (lo := 0) (n := k.toNat) (fun j H' => Same H1 H' ∧ ∃ as, (∀ a, a ∈ as → H1 a = none) ∧ TabAt H' Dl as ((List.range j).map f)) ⟨same_upd hD, [], fun a h => (nomatch h), ⟨by simp, upd_same, rfl, fun k a h => by simp at h⟩⟩ (fun j H' hj ⟨sm, as, af, T⟩ => ?_) (fun H' ⟨sm, as, af, T⟩ => ?_)
    · obtain ⟨env2, tg, he⟩ := hx j hj
      have w1 := w.ext s1
      have hDn : H' Dl ≠ none := by rw [T.at_]; exact fun z => nomatch z
      have e' : EnvOk K (fun a => M a ∨ a = Dl) (fun a => B a ∨ a = Dl) H' (L2.wipe σ vs) (wipeE env vs) := ((e.ext s1).add sm hD).wipe vs
      have z : (0 : Int) + (j : Int) = (j : Int) := Int.zero_add _
      rw [z]
      refine tg.run _ _ (L2.wipe σ vs) H' (.int (j : Int)) _ e' (.int _) fun σ2 e2 o2 l2 => ⟨?_, ?_⟩
      · rw [wipe_eq l2 o2]
        exact wipe_eq (L2.wipe_length _ _) fun j hj => wipe_get hj
      · have w2 : Wf (fun a => M a ∨ a = Dl) (fun a => B a ∨ a = Dl) H' := (w1.ext sm).add hDn
        refine jt_yes (K := K) (env := env2) _ _ σ2 H' _ w2 e2 fun H3 s3 => ?_
        refine iteT ?_
        refine he _ _ σ2 H3 _ (w2.ext s3) (e2.ext s3) fun y H4 s4' ⟨b, us, eb, fb, hb, rb⟩ => ?_
        have s4 := s3.trans s4'
        have T3 := T.ext s3
        rw [eb]
        have ub := RpA.ints_inv rb
        rw [ub] at hb
        have T4 := T.ext s4
        have bD : b ≠ Dl := fun z => by
          rw [z, T3.at_] at fb
          cases fb
        have bas : b ∉ as := fun z => by
          obtain ⟨i, hi, ei⟩ := List.getElem_of_mem z
          have := T3.row i b (by rw [List.getElem?_eq_getElem hi, ei])
          rw [fb] at this
          cases this
        refine ⟨as.map V.ref, T4.at_, szl' (by rw [List.length_map, T.len]; simp; omega), fun a o h => ?_, as ++ [b], fun a ha => ?_, ?_⟩
        · rw [upd_ne (fun z => by rw [z, hD] at h; cases h)]
          exact s4 _ _ (sm _ _ h)
        · rcases List.mem_append.mp ha with h | h
          · exact af a h
          · rw [List.mem_singleton.mp h]
            exact (sm.trans s3).free fb
        · have nd := List.nodup_cons.mp T.nd
          refine ⟨List.nodup_cons.mpr ⟨fun z => (List.mem_append.mp z).elim nd.1 fun y => bD (List.mem_singleton.mp y).symm, ?_⟩, by rw [upd_same, List.map_append]; rfl, by rw [List.length_append, T.len]; simp, fun i a ha => ?_⟩
          · rw [List.nodup_append]
            exact ⟨nd.2, by simp, fun p hp q hq e => bas (by rw [List.mem_singleton.mp hq] at e; exact e ▸ hp)⟩
          · have ne : a ≠ Dl := fun z => by
              rcases List.mem_append.mp (List.mem_of_getElem? ha) with y | y
              · exact nd.1 (z ▸ y)
              · exact bD ((List.mem_singleton.mp y).symm.trans z)
            have lf : as.length = j := by rw [T.len]; simp
            rw [upd_ne ne]
            by_cases c : i < as.length
            · rw [List.getElem?_append_left c] at ha
              have := T4.row i a ha
              rw [this, range_getD (by omega), range_getD (by omega)]
            · have ci : i = j := by
                have := (List.getElem?_eq_some_iff.mp ha).1
                simp at this
                omega
              subst ci
              rw [List.getElem?_append_right (by omega), lf, Nat.sub_self] at ha
              have : b = a := by simpa using ha
              subst this
              rw [hb, range_getD (by omega)]
    · refine q _ H' (s1.trans sm) ⟨Dl, as, rfl, fun a ha => ?_, T⟩
      rcases List.mem_cons.mp ha with z | z
      · rw [z]; exact s1.free hD
      · exact s1.free (af a z)
end
section
variable {C : Ct} {env : List Sl} {i : Nat} {te : TE} {u : TS} {D : Ends} {R : List (List Int)}
theorem run_setTab (h : Jd C.K te env (pTab R)) (hi : i < env.length) (k : RunR C D u env i R) : Run C D (tSeq (tAsg te (gName i)) u) env := fun L σ H g =>
  g.eval h fun v H' s g' ⟨p, as, ev, fr, T⟩ => by
    rw [ev]
    have lst : ∀ a, a ∈ p :: as → ∃ xs, H' a = some (.lst xs) := fun a ha => by
      rcases List.mem_cons.mp ha with z | z
      · rw [z]; exact ⟨_, T.at_⟩
      · obtain ⟨n, hn, e⟩ := List.getElem_of_mem z
        exact ⟨_, T.row n a (by rw [List.getElem?_eq_getElem hn, e])⟩
    have g1 := g.grow (S := fun a => a ∈ p :: as) s fun a ha => ⟨fr a ha, lst a ha⟩
    have len : i < σ.length := by rw [g.ok.len]; exact hi
    refine k (σ.set i (some (.ref p))) H' ⟨_, p, as, g1.setUn, fun a z => .inr z, fun k n ds q h1 h2 z => ?_, List.getElem?_set_self len, T⟩
    by_cases e : i = k
    · subst e
      rw [List.getElem?_set_self hi] at h1
      cases h1
    · rw [List.getElem?_set_ne e] at h1 h2
      obtain ⟨p', us, e1, _, e3, _⟩ := g.ok.sl k _ h1
      rw [h2] at e1
      cases e1
      rw [fr q z] at e3
      cases e3
end
end DL

namespace TT
open DL
/-! tables by their numbers -/
def tabL (n : Nat) (f : Nat → Nat → Int) : List (List Int) := (List.range n).map fun p => (List.range n).map fun q => f p q
theorem tabL_len {n : Nat} {f : Nat → Nat → Int} : (tabL n f).length = n := by simp [tabL]
theorem tabL_row {n r : Nat} {f : Nat → Nat → Int} (h : r < n) : (tabL n f).getD r [] = (List.range n).map fun q => f r q := by
  unfold tabL
  rw [range_getD h]
theorem tabL_congr {n : Nat} {f g : Nat → Nat → Int} (h : ∀ p q, p < n → q < n → f p q = g p q) : tabL n f = tabL n g :=
  List.map_congr_left fun p hp => List.map_congr_left fun q hq => h p q (List.mem_range.mp hp) (List.mem_range.mp hq)
theorem row_put {n c : Nat} {g : Nat → Int} {z : Int} : ((List.range n).map g).set c z = (List.range n).map fun q => if q = c then z else g q := by
  refine List.ext_getElem? fun i => ?_
  rw [List.getElem?_map]
  by_cases e : i = c
  · subst e
    by_cases hi : i < n
    · rw [List.getElem?_set_self (by simp; exact hi), List.getElem?_range hi]
      show some z = some (if i = i then z else g i)
      rw [if_pos rfl]
    · rw [List.getElem?_eq_none (by simp; omega), List.getElem?_eq_none (by simp; omega)]
      rfl
  · rw [List.getElem?_set_ne (fun z => e z.symm), List.getElem?_map]
    by_cases hi : i < n
    · rw [List.getElem?_range hi]
      show some (g i) = some (if i = c then z else g i)
      rw [if_neg e]
    · rw [List.getElem?_eq_none (by simp; omega)]
      rfl
theorem tabL_put {n r c : Nat} {f : Nat → Nat → Int} {z : Int} (hr : r < n) : (tabL n f).set r (((tabL n f).getD r []).set c z) = tabL n fun p q => if p = r ∧ q = c then z else f p q := by
  rw [tabL_row hr, row_put]
  refine List.ext_getElem? fun i => ?_
  unfold tabL
  rw [List.getElem?_map]
  by_cases e : i = r
  · subst e
    rw [List.getElem?_set_self (by simp; exact hr), List.getElem?_range hr]
    show some _ = some ((List.range n).map _)
    congr 1
    refine List.map_congr_left fun q _ => ?_
    by_cases h : q = c <;> simp [h]
  · rw [List.getElem?_set_ne (fun z => e z.symm), List.getElem?_map]
    by_cases hi : i < n
    · rw [List.getElem?_range hi]
      show some _ = some ((List.range n).map _)
      congr 1
      refine List.map_congr_left fun q _ => ?_
      show f i q = if i = r ∧ q = c then z else f i q
      rw [if_neg (fun h : i = r ∧ q = c => e h.1)]
    · rw [List.getElem?_eq_none (by simp; omega)]
      rfl
theorem lap_take {ts : List Tie} {k : Nat} {x : Tie} (h : ts[k]? = some x) (p q : Nat) : lap (ts.take (k + 1)) p q = lap (ts.take k) p q + lapT x p q := by
  rw [List.take_add_one, h]
  have : ∀ us : List Tie, lap (us ++ [x]) p q = lap us p q + lapT x p q := fun us => by
    induction us with
    | nil => show lapT x p q + 0 = 0 + lapT x p q; omega
    | cons u us ih => show lapT u p q + lap (us ++ [x]) p q = lapT u p q + lap us p q + lapT x p q; rw [ih]; omega
  exact this _
theorem lapT_val {x y p q : Nat} (h : x ≠ y) : lapT (x, y) p q = (if p = x ∧ q = x then 1 else 0) + (if p = y ∧ q = y then 1 else 0) - (if p = x ∧ q = y then 1 else 0) - (if p = y ∧ q = x then 1 else 0) := by
  show (ind p x - ind p y) * (ind q x - ind q y) = _
  rcases ind01 p x with ⟨c1, e1⟩ | ⟨c1, e1⟩ <;> rcases ind01 p y with ⟨c2, e2⟩ | ⟨c2, e2⟩ <;> rcases ind01 q x with ⟨c3, e3⟩ | ⟨c3, e3⟩ <;> rcases ind01 q y with ⟨c4, e4⟩ | ⟨c4, e4⟩ <;> rw [e1, e2, e3, e4] <;> (repeat' split) <;> omega
theorem lapT_self {x p q : Nat} : lapT (x, x) p q = 0 := by
  show (ind p x - ind p x) * _ = 0
  rw [Int.sub_self, Int.zero_mul]
theorem rep_flat {α : Type} (d : α) : ∀ n : Nat, (List.replicate n [d]).flatten = List.replicate n d
  | 0 => rfl
  | n + 1 => by rw [List.replicate_succ, List.replicate_succ, List.flatten_cons, rep_flat d n]; rfl
theorem hb_inb {n k : Nat} {ts : List Tie} {x : Tie} (h : Inb n ts) (hx : ts[k]? = some x) : x.1 < n ∧ x.2 < n := h x (List.mem_of_getElem? hx)
/-- without the row and the column at r -/
def leftL (n : Nat) (ts : List Tie) (r : Nat) : List (List Int) := ((lapL n ts).eraseIdx r).map fun row => dropCol row r
theorem erase_get {α : Type} {l : List α} {r i : Nat} (h : r < l.length) : (l.eraseIdx r)[i]? = l[skip r i]? := by
  rw [List.getElem?_eraseIdx]
  unfold skip
  split <;> rfl
theorem leftL_ent {n r i j : Nat} {ts : List Tie} (hr : r < n + 1) (hi : i < n) (hj : j < n) : ent (leftL (n + 1) ts r) i j = cutAt r (lap ts) i j := by
  have si := skip_lt (c := r) (j := i) (n := n) hi
  have sj := skip_lt (c := r) (j := j) (n := n) hj
  have e : (leftL (n + 1) ts r).getD i [] = dropCol ((List.range (n + 1)).map fun q => lap ts (skip r i) q) r := by
    unfold leftL
    rw [List.getD_eq_getElem?_getD, List.getElem?_map, erase_get (by rw [lapL_len]; exact hr)]
    unfold lapL
    rw [List.getElem?_map, List.getElem?_range si]
    rfl
  show ((leftL (n + 1) ts r).getD i []).getD j 0 = lap ts (skip r i) (skip r j)
  rw [e, dropCol_get (by simp; exact hr), range_getD sj]
theorem leftL_small {n r : Nat} {ts : List Tie} (hr : r < n + 1) (hn : n + 1 ≤ 8) (ht : ts.length ≤ 2 ^ 60) : Small n (leftL (n + 1) ts r) := by
  refine ⟨⟨?_, fun row hrow => ?_⟩, by omega, fun i j hi hj => ?_⟩
  · unfold leftL
    rw [List.length_map, List.length_eraseIdx_of_lt (by rw [lapL_len]; exact hr), lapL_len]
    rfl
  · obtain ⟨s, hs, rfl⟩ := List.mem_map.mp hrow
    obtain ⟨p, _, rfl⟩ := List.mem_map.mp (List.mem_of_mem_eraseIdx hs)
    rw [dropCol_len (by simp; exact hr)]
    simp
  · rw [leftL_ent hr hi hj]
    exact Nat.le_trans (lap_bd _ _ _) ht
theorem leftL_det {n r : Nat} {ts : List Tie} (hr : r < n + 1) (hb : Inb (n + 1) ts) : det n (ent (leftL (n + 1) ts r)) = (T (n + 1) ts : Int) := by
  rw [← lap_matrix _ (n + 1) ts r (Nat.le_refl _) hr hb]
  exact det_congr fun i j hi hj => leftL_ent hr hi hj
end TT

/-! caught exceptions -/
namespace DL
open PySem PySem.Spec PyProof.Rows L2 TT
/-! ### a def out of a list of defs -/
def tCallV (f1 f2 : Addr) (sp1 sp2 : Sp) (E : L2.St → XK) (tf : TE) (t : TA) : TE := fun σ H Q => tf σ H fun y H1 => (y = .ref f1 ∧ t σ H1 fun vs H2 => sp1 vs H2 Q (E σ)) ∨ (y = .ref f2 ∧ t σ H1 fun vs H2 => sp2 vs H2 Q (E σ))
theorem pe_callV {X : Cx} {CX : CXT} {k1 k2 : Nat} {f1 f2 : Addr} {fd1 fd2 : FuncData} {ps1 ps2 : List Str} {sp1 sp2 : Sp} {E : L2.St → XK} {pos : Pos} {fe e : Expr} {es : List Expr} {tf : TE} {t : TA}
    (F1 : FnOk X.prog X.w X.K X.mg X.base CX k1 f1 fd1 ps1 sp1) (F2 : FnOk X.prog X.w X.K X.mg X.base CX k2 f2 fd2 ps2 sp2) (hr1 : Room k1 X.A) (hr2 : Room k2 X.A) (hk1 : PySem.W.keepIn X.K (.ref f1) = true) (hk2 : PySem.W.keepIn X.K (.ref f2) = true) (hb1 : Binds X.K fd1 ps1 []) (hb2 : Binds X.K fd2 ps2 []) (hx : ∀ σ, PassesAt CX X σ (E σ))
    (hf : PE X fe tf) (ha : PA X (e :: es) t) (hq : eval (.Call fe (e :: es) [] pos) X.env = (do callWith pos (← eval fe X.env) [] (backTo pos (starEach (e :: es) X.env)) (backToKw pos (keywordEach [] X.env))) := by rfl)
    (he : starEach (e :: es) X.env = (false, eval e X.env) :: starEach es X.env := by rfl) (hpl : (backTo pos (starEach es X.env)).any (·.1) = false := by rfl) : PE X (.Call fe (e :: es) [] pos) (tCallV f1 f2 sp1 sp2 E tf t) := by
  constructor
  intro pins s σ H Q I h
  refine Call_ (thn (hf.run pins s σ H _ I h) ?_) hq
  rintro u s1 ⟨y, H1, I1, ry, ⟨rfl, q⟩ | ⟨rfl, q⟩⟩
  · obtain rfl : u = Value.ref f1 := ry
    refine PySem.W.callWith_K (h₀ := X.base) I1.ok.mod.kin hk1 (thn (ha.run pos pins s1 σ H1 _ I1 q) ?_) he hpl
    rintro us s2 ⟨vs, H2, I2, r, q2⟩
    exact ⟨I2.kIn, run_fnS F1 hr1 hb1 (hx σ) I2 r q2⟩
  · obtain rfl : u = Value.ref f2 := ry
    refine PySem.W.callWith_K (h₀ := X.base) I1.ok.mod.kin hk2 (thn (ha.run pos pins s1 σ H1 _ I1 q) ?_) he hpl
    rintro us s2 ⟨vs, H2, I2, r, q2⟩
    exact ⟨I2.kIn, run_fnS F2 hr2 hb2 (hx σ) I2 r q2⟩
/-! ### xs.count(b) of truths -/
def rCntB (K : PySem.W.Frag) : V → List V → Hp → VK → Prop := fun x xs H Q => ∃ (p : Addr) (bs : List Bool) (b : Bool), x = .ref p ∧ xs = [.bl b] ∧ SqL K H p (bs.map V.bl) ∧ Q (.int ((bs.count b : Nat) : Int)) H
theorem readsB {h : Heap} : ∀ (bs : List Bool) (us : List Value), Vals (bs.map V.bl) us → ReadsAll h us (bs.map PyData.bool) []
  | [], us, r => by cases r; exact .nil
  | b :: bs, us, r => by
    cases r with
    | cons r1 r2 =>
      obtain rfl := r1
      exact ReadsAll.cons (as := []) (.bool b) (readsB bs _ r2)
theorem mt_cntB {X : Cx} {k : Nat} (hr : X.A.units + 200 < cLine) : MtR X "list.count" (rCntB X.K) := by
  intro pins s σ H x xs v us Q I rx rxs h
  obtain ⟨p, bs, b, rfl, rfl, hs, q⟩ := h
  cases rx
  obtain ⟨u, rfl, ru⟩ := rxs.one
  obtain rfl := ru
  obtain ⟨its, rv, hl, _⟩ := I.list hs
  have pl : ∀ cs : List Bool, PyData.plainAll (cs.map PyData.bool) = true := fun cs => by
    induction cs with
    | nil => rfl
    | cons c cs ih => rw [List.map_cons]; simp only [PyData.plainAll, ih, PyData.plain, Bool.and_true]
  have dp : ∀ cs : List Bool, PyData.depthAll (cs.map PyData.bool) = 0 := fun cs => by
    induction cs with
    | nil => rfl
    | cons c cs ih => rw [List.map_cons]; simp only [PyData.depthAll, ih, PyData.depth]; rfl
  refine SeqAt.count_list_data (x := .bool b) (d := .bool b) (as := []) (bs := []) hl.isList (by simpa using readsB bs _ rv) (.bool b) (pl bs) rfl (by rw [dp]; omega) ?_
  refine ⟨.int ((bs.count b : Nat) : Int), H, I.tok _, ⟨s.toks, ?_⟩, q⟩
  have e : (bs.map PyData.bool).countP (fun y => PyData.eqv y (.bool b)) = bs.count b := by
    rw [List.countP_map]
    unfold List.count
    congr 1
  rw [e]
theorem cntB_K (K : PySem.W.Frag) {X : Cx} (hK : X.K = K) (hr : X.A.units + 200 < cLine) : MtR X "list.count" (rCntB K) := by subst hK; exact mt_cntB (k := 0) hr
/-! ### a def that is asked about the exception that is handled -/
def tAsk (a : Addr) (i : Nat) (P : Hp → VK → Prop) : TE := fun σ H Q => σ[i]? = some (some (.ref a)) ∧ P H Q
theorem room_mark {k : Nat} {A : Around} {h : Option Value} (r : Room k A) : L2H.RoomH k (A.mark h) := ⟨r.dp, r.un⟩
theorem pe_ask {X : Cx} {a : Addr} {oe : Obj} {pn : List (Addr × Obj)} {x qual y : Str} {st : Stmt} {f : Addr} {fd : FuncData} {N : List Str} {i k : Nat} {p q pos : Pos} {P : Hp → VK → Prop} (F : Fun X.K x qual st f fd) (S : FnScope N [y] (defScope st)) (hr : Room (k + 1) X.A) (hf : ∃ vs, oe.data = .fields vs)
    (hg : Gl X x) (hm : X.mg x = some (.ref f)) (hb : Binds X.K fd [y] []) (hN : X.N[i]? = some y) (hv : Vis X.env.scope y)
    (body : ∀ (cdv : Value) (A : Around) (outer : List Env) (s : Shared) (H : Hp) (Q : VK), A.handled = some (.ref a) → L2H.RoomH k (A.deeper (envOfC qual (defScope st) s.heap.objs.size f cdv)) → P H Q →
      ∃ t, PSs (L2H.cxH CX0 X.prog X.w X.K X.mg X.base N qual (defScope st) f cdv A outer s H E0 (a, oe)) (defBody st) t ∧ t { nx := fun _ H' => Q .non H', rt := Q } (L2.start N [.ref a]) H)
    (hdb : (x == ("__debug__" : Str)) = false := by decide) (hd2 : (y == ("__debug__" : Str)) = false := by decide) (hcd2 : (y == ("__classdict__" : Str)) = false := by decide) (he : starEach [.Name y q] (X.suite a ((a, oe) :: pn)).env = [(false, eval (.Name y q) (X.suite a ((a, oe) :: pn)).env)] := by rfl) :
    PE (X.suite a ((a, oe) :: pn)) (.Call (.Name x p) [.Name y q] [] pos) (tAsk a i P) := by
  constructor
  rintro pins s σ H Q I ⟨hσ, hP⟩
  have ev : PE (X.suite a ((a, oe) :: pn)) (.Name y q) (tVar i) := pe_var hN hv hd2 hcd2
  refine wpAny_Call_Name_kw (ld_glob I hg hm ?_ hdb)
  refine PySem.W.callWith_K (h₀ := X.base) I.ok.mod.kin F.kp (thn ((pa_cons ev pa_nil).run pos pins s σ H (fun vs H1 => vs = [.ref a] ∧ H1 = H) I ⟨.ref a, hσ, rfl, rfl⟩) ?_) he rfl
  rintro us s1 ⟨vs, H1, I1, r, rfl, rfl⟩
  refine ⟨I1.kIn, ?_⟩
  obtain ⟨oc, od, kV, doc, pm, an, cdv, ct, osl, rfl, lk, hcd⟩ := F.ex
  have pin := I1.pin (a, oe) (List.mem_append_left _ List.mem_cons_self)
  have apart : L2H.PinOk (X.suite a ((a, oe) :: pn)).stack H1 s1 (a, oe) := ⟨pin.1, pin.2.1, fun z => (List.mem_cons.mp (I1.stkSub a z)).elim pin.2.2.1 pin.2.2.2.1, pin.2.2.2.2⟩
  have around := I1.env0
  have len1 : us.length = [y].length := by rw [← r.length]; rfl
  have bound := hb s1 us I1.kIn (by rw [List.append_nil]; exact len1)
  rw [List.append_nil] at bound
  have hot : (X.suite a ((a, oe) :: pn)).A.handled = some (.ref a) := rfl
  have rm : L2H.RoomH (k + 1) (X.suite a ((a, oe) :: pn)).A := room_mark hr
  have names : ∀ z ∈ [y].zip us, (defScope st).names.lookup z.1 = some .local ∨ ((defScope st).names.lookup z.1 = some .cell ∧ ((cellsFrom (s1.heap.objs.size + 1) (defScope st).names []).lookup z.1).isSome = true) := by
    rintro ⟨z, v⟩ hz
    exact (S.par z (List.of_mem_zip hz).1).imp id fun c => ⟨c, PySem.W.cellsFrom_some _ _ _ (.inl c)⟩
  refine wpAny_call (codeAny_mono (R := L2.CR CX0 (X.suite a ((a, oe) :: pn)).stack X.prog X.w H1 s1 Q E0) ?run ?fin)
  case fin =>
    intro res s' hres
    match res, hres with
    | .error e, z => exact False.elim z
    | .ok (.ret u), z => exact I1.after z
  case run =>
    refine codeAny_call_function rm.depth (I1.kIn _ _ lk) rfl S.co S.gen rfl (PySem.W.codeRec_of I1.kIn hcd) (bound _ _ _ _ ?_)
    refine wpAny_newFunctionEnv_cells S.kind names ?_
    rintro env rfl s2 made
    refine ⟨I1.nolimit.keeps made.toInCall.keep, codeAny_func ?_⟩
    obtain ⟨t, ht, go⟩ := body cdv (X.suite a ((a, oe) :: pn)).A (X.suite a ((a, oe) :: pn)).stack s1 H1 Q hot (rm.deeper _) hP
    have J := L2H.inv_startH (CX := CX0) (E := E0) S apart around (show [V.ref a].length = [y].length from rfl) r made
    refine wpAny_mono (ht.run [] s2 _ H1 _ J go) ?_ fun e s' z => z
    intro fl s' hs
    match fl, hs with
    | .ret u, ⟨v, σ', H', J', rv, hq⟩ => exact ⟨v, H', J'.os, J'.bare, J'.base, J'.hok, rv, hq⟩
    | .next, ⟨σ', H', J', hq⟩ => exact ⟨.non, H', J'.os, J'.bare, J'.base, J'.hok, rfl, hq⟩
    | .brk, ⟨_, _, _, hq⟩ => exact False.elim hq
    | .cont, ⟨_, _, _, hq⟩ => exact False.elim hq
/-- such a def's context is a suite's -/
theorem cxH_suite {P : Program} {w : World} {K : PySem.W.Frag} {mg : Str → Option Value} {base : Heap} {N : List Str} {qual : Str} {sc : Scope} {f : Addr} {cd : Value} {A : Around} {outer : List Env} {s : Shared} {H : Hp} {a : Addr} {oe : Obj} (h : A.handled = some (.ref a)) :
    (L2H.cxH CX0 P w K mg base N qual sc f cd A outer s H E0 (a, oe)).nox = (cxOf CX0 P w K mg base N qual sc f cd A outer s H E0).suite a [(a, oe)] := by
  have e : (A.deeper (envOfC qual sc s.heap.objs.size f cd)).mark (some (.ref a)) = A.deeper (envOfC qual sc s.heap.objs.size f cd) := by
    unfold Around.mark Around.deeper
    rw [h]
    rfl
  show _ = { (cxOf CX0 P w K mg base N qual sc f cd A outer s H E0) with A := (A.deeper (envOfC qual sc s.heap.objs.size f cd)).mark (some (.ref a)), calm := false, pn := [(a, oe)], xe := fun _ _ => False }
  rw [e]
  rfl
/-! ### try -/
section
variable {C : Ct} {D : Ends} {env : List Sl} {u : TS} {te : TE} {ta : TA} {c : Value} {W : WX} {fl : List Bool} {r : Bool} {Pre : List DL.D → Prop} {Post : List DL.D → Out → Prop} {ds : List DL.D}
/-- an expression that raises in a try -/
def ErW (C : Ct) (W : WX) (te : TE) (env : List Sl) (c : Value) : Prop := ∀ L σ H Q, GoodL C L env σ H → (∀ H', Same H H' → GoodL C L env σ H' → W c none σ H') → te σ H Q
theorem er_callW {cl : XC → Addr} {c : XC} (h : JFs C.K fl ta env ds) (hp : Pre ds) (ho : ∀ out, Post ds out → out = .err c) : ErW C W (tCallS (spD C.K cl fl r Pre Post) (WE W) ta) env (.ref (cl c)) := fun L σ H Q g q =>
  h _ _ σ H _ g.w g.ok fun vs H1 s1 rf => ⟨_, _, ds, g.w.ext s1, rf, hp, fun out po => by
    rw [ho out po]
    exact fun H' s' => q H' (s1.trans s') (g.ext (s1.trans s'))⟩
theorem run_retW (h : ErW C W te env c) (q : ∀ L σ H, GoodL C L env σ H → W c none σ H) : Run C D (tRet te) env := fun L σ H g => h L σ H _ g fun H' s g' => q L σ H' g'
theorem run_dropW (h : ErW C W te env c) (q : ∀ L σ H, GoodL C L env σ H → W c none σ H) : Run C D (tDrop te) env := fun L σ H g => h L σ H _ g fun H' s g' => q L σ H' g'
theorem run_tryAs {K : PySem.W.Frag} {b : Value} {i : Nat} {ts : Addr → Value → Option Addr → TS} {Wout : WX} {tb : WX → TS} (h : Run C { D with nx := u D } (tb (wAs K b i ts Wout { D with nx := u D })) env) : Run C D (tSeq (fun D σ H => tb (wAs K b i ts Wout D) D σ H) u) env := h
theorem run_tryOnly {K : PySem.W.Frag} {b : Value} {ts : Addr → Value → Option Addr → TS} {Wout : WX} {tb : WX → TS} (h : Run C { D with nx := u D } (tb (wOnly K b ts Wout { D with nx := u D })) env) : Run C D (tSeq (fun D σ H => tb (wOnly K b ts Wout D) D σ H) u) env := h
/-- caught -/
theorem wAs_caught {K : PySem.W.Frag} {b : Value} {i : Nat} {ts : Addr → Value → Option Addr → TS} {Wout : WX} {σ : L2.St} {H : Hp} (he : PySem.W.exmOne K c b = some true)
    (h : ∀ a, H a = none → ts a c none { nx := fun σ' H' => D.nx (σ'.set i none) H', rt := D.rt, bk := fun σ' H' => D.bk (σ'.set i none) H', ct := fun σ' H' => D.ct (σ'.set i none) H' } (σ.set i (some (.ref a))) H) : wAs K b i ts Wout D c none σ H :=
  ⟨true, he, fun _ => h, fun z => nomatch z⟩
theorem wOnly_caught {K : PySem.W.Frag} {b : Value} {ts : Addr → Value → Option Addr → TS} {Wout : WX} {σ : L2.St} {H : Hp} (he : PySem.W.exmOne K c b = some true) (h : ∀ a, H a = none → ts a c none D σ H) : wOnly K b ts Wout D c none σ H :=
  ⟨true, he, fun _ => h, fun z => nomatch z⟩
end
/-- isinstance(e, cv), by the classes -/
theorem kit_sub {K : PySem.W.Frag} {D C : Addr} {b : Bool} (hd : PySem.W.hasDictIn K C = true) (ht : PySem.W.typeIn K (.ref C) = some (.type "type")) (h : PySem.W.subIn K (.ref D) (.ref C) = some b) (hs : D = C → b = true) : PySem.W.kitOne K (.ref D) (.ref C) = some b := by
  unfold PySem.W.kitOne
  by_cases e : D = C
  · rw [if_pos (by rw [e]; exact beq_self_eq_true _), hs e]
  · rw [if_neg (by simpa using e)]
    obtain ⟨cd, hc, _⟩ := PySem.W.any_some hd
    show (if ((PySem.W.clsIn K C).isSome && PySem.W.typeIn K (.ref C) == some (.type "type")) = true then PySem.W.subIn K (.ref D) (.ref C) else none) = some b
    rw [hc, ht]
    exact (if_pos rfl).trans h
theorem kit_base {K : PySem.W.Frag} {D : Addr} {T : String} {b : Bool} (hm : PySem.W.kitMeta T = true) (h : PySem.W.subIn K (.ref D) (.type T) = some b) : PySem.W.kitOne K (.ref D) (.type T) = some b := by
  unfold PySem.W.kitOne
  rw [if_neg (by intro z; cases eq_of_beq z)]
  show (if PySem.W.kitMeta T = true then PySem.W.subIn K (.ref D) (.type T) else none) = some b
  rw [if_pos hm]
  exact h
/-- isinstance(e, ..) of the exception that is handled, whatever its class -/
def rIsEG (K : PySem.W.Frag) (cls : Value) (d : Option Addr) (a : Addr) : List V → Hp → VK → Prop := fun xs H Q => ∃ D, cls = .ref D ∧ d = none ∧ ExcC K D ∧ rIsE K D a xs H Q
theorem call_isEG {X : Cx} {a : Addr} {oe : Obj} {pn : List (Addr × Obj)} {cls : Value} {d : Option Addr} (hz : Zc cls d oe) (hf : ∃ vs, oe.data = .fields vs) : CallR (X.suite a ((a, oe) :: pn)) (.builtin "isinstance") (rIsEG X.K cls d a) := by
  intro pins s σ H xs us Q I r h
  obtain ⟨D, rfl, rfl, ex, q⟩ := h
  exact call_isE ex hz hf pins s σ H xs us Q I r q
theorem isEG_K (K : PySem.W.Frag) {X : Cx} {a : Addr} {oe : Obj} {pn : List (Addr × Obj)} {cls : Value} {d : Option Addr} (hK : X.K = K) (hz : Zc cls d oe) (hf : ∃ vs, oe.data = .fields vs) : CallR (X.suite a ((a, oe) :: pn)) (.builtin "isinstance") (rIsEG K cls d a) := by subst hK; exact call_isEG hz hf
theorem isE_ref {K : PySem.W.Frag} {D C a : Addr} {i : Nat} {b : Bool} {σ : L2.St} {H : Hp} {Q : VK} (ex : ExcC K D) (h : σ[i]? = some (some (.ref a))) (hk : PySem.W.kitOne K (.ref D) (.ref C) = some b) (q : Q (.bl b) H) : tCB (rIsEG K (.ref D) none a) (tCons (tVar i) (tCons (tC (.ref C)) tNil)) σ H Q :=
  ⟨.ref a, h, D, rfl, rfl, ex, .ref C, .ref C, b, rfl, fun u hu => hu, hk, q⟩
theorem isE_ty {K : PySem.W.Frag} {D a : Addr} {T : String} {i : Nat} {b : Bool} {σ : L2.St} {H : Hp} {Q : VK} (ex : ExcC K D) (h : σ[i]? = some (some (.ref a))) (hk : PySem.W.kitOne K (.ref D) (.type T) = some b) (q : Q (.bl b) H) : tCB (rIsEG K (.ref D) none a) (tCons (tVar i) (tCons (tC (.ty T)) tNil)) σ H Q :=
  ⟨.ref a, h, D, rfl, rfl, ex, .ty T, .type T, b, rfl, fun u hu => hu, hk, q⟩
/-- what is known of the six refusals -/
structure SixOk (K : PySem.W.Frag) (cl : XC → Addr) (net : Addr) : Prop where
  ex : ∀ c, ExcC K (cl c)
  one : ∀ c c', PySem.W.kitOne K (.ref (cl c)) (.ref (cl c')) = some (decide (c = c'))
  val : ∀ c, PySem.W.kitOne K (.ref (cl c)) (.type "ValueError") = some true
  net : ∀ c, PySem.W.exmOne K (.ref (cl c)) (.ref net) = some true
/-- what is asked of a def that names a refusal: its number among six -/
def NamesP (cl : XC → Addr) (six : List XC) (cls : Value) (d : Option Addr) : Hp → VK → Prop := fun H Q => ∃ c, cls = .ref (cl c) ∧ d = none ∧ ∀ H', Same H H' → Q (.int ((six.idxOf c : Nat) : Int)) H'
theorem idx_map : ∀ {L : List XC} {c : XC}, 0 < (L.map fun x => decide (c = x)).count true → (L.map fun x => decide (c = x))[L.idxOf c]? = some true ∧ ∀ m z, m < L.idxOf c → (L.map fun x => decide (c = x))[m]? = some z → z ≠ true
  | [], c, h => absurd h (Nat.lt_irrefl 0)
  | x :: L, c, h => by
    by_cases e : c = x
    · subst e
      rw [List.idxOf_cons_self]
      exact ⟨by simp, fun m z hm => absurd hm (Nat.not_lt_zero m)⟩
    · have e' : (x == c) = false := by simpa using fun z : x = c => e z.symm
      have ih := idx_map (L := L) (c := c) (by
        rw [List.map_cons, List.count_cons, decide_eq_false e] at h
        simpa using h)
      rw [List.idxOf_cons, e']
      refine ⟨by simpa using ih.1, fun m z hm hz => ?_⟩
      cases m with
      | zero =>
        have : decide (c = x) = z := by simpa using hz
        rw [← this, decide_eq_false e]
        exact Bool.false_ne_true
      | succ m => exact ih.2 m z (by simpa using hm) (by simpa using hz)
theorem names_read {K : PySem.W.Frag} {cl : XC → Addr} {net : Addr} (six : SixOk K cl net) {c c0 c1 c2 c3 c4 c5 : XC} (hc : [decide (c = c0), decide (c = c1), decide (c = c2), decide (c = c3), decide (c = c4), decide (c = c5)].count true = 1) {a : Addr} {H : Hp} {Q : VK} {t1 : TE}
    (q : ∀ H', Same H H' → Q (.int (([c0, c1, c2, c3, c4, c5].idxOf c : Nat) : Int)) H') :
    tSeq (tAsg (tLst (tCons (tCB (rIsEG K (.ref (cl c)) none a) (tCons (tVar 0) (tCons (tC (.ref (cl c0))) tNil))) (tCons (tCB (rIsEG K (.ref (cl c)) none a) (tCons (tVar 0) (tCons (tC (.ref (cl c1))) tNil))) (tCons (tCB (rIsEG K (.ref (cl c)) none a) (tCons (tVar 0) (tCons (tC (.ref (cl c2))) tNil))) (tCons (tCB (rIsEG K (.ref (cl c)) none a) (tCons (tVar 0) (tCons (tC (.ref (cl c3))) tNil))) tNil))))) (gName 1))
      (tSeq (tAsg (tOp rAddD (tVar 1) (tLst (tCons (tCB (rIsEG K (.ref (cl c)) none a) (tCons (tVar 0) (tCons (tC (.ref (cl c4))) tNil))) (tCons (tCB (rIsEG K (.ref (cl c)) none a) (tCons (tVar 0) (tCons (tC (.ref (cl c5))) tNil))) tNil)))) (gName 1))
      (tSeq (tIfS (tOr (tTest (tOp (rNeD K) (tBM K "list" (rCntB K) (tVar 1) (tCons (tC (.bl true)) tNil)) (tC (.int 1)))) (tNot (tB (tCB (rIsEG K (.ref (cl c)) none a) (tCons (tVar 0) (tCons (tC (.ty "ValueError")) tNil)))))) (tRet t1) tNext)
      (tRet (tBM K "list" (rIndex K) (tVar 1) (tCons (tC (.bl true)) tNil))))) { nx := fun _ H' => Q .non H', rt := Q } [some (.ref a), none] H := by
  refine isE_ref (six.ex c) rfl (six.one c c0) (isE_ref (six.ex c) rfl (six.one c c1) (isE_ref (six.ex c) rfl (six.one c c2) (isE_ref (six.ex c) rfl (six.one c c3) ⟨szl (by simp), fun p hp => ?_⟩)))
  refine ⟨.ref p, rfl, ?_⟩
  refine isE_ref (six.ex c) rfl (six.one c c4) (isE_ref (six.ex c) rfl (six.one c c5) ⟨szl (by simp), fun p2 hp2 => ?_⟩)
  have pp : p ≠ p2 := fun z => by rw [z, upd_same] at hp2; cases hp2
  refine .inr ⟨p, p2, _, _, rfl, rfl, by rw [upd_ne pp]; exact upd_same, upd_same, szl (by simp), fun p3 hp3 => ?_⟩
  generalize hB : [decide (c = c0), decide (c = c1), decide (c = c2), decide (c = c3), decide (c = c4), decide (c = c5)] = bs at hc
  have hl : ([V.bl (decide (c = c0)), .bl (decide (c = c1)), .bl (decide (c = c2)), .bl (decide (c = c3))] ++ [V.bl (decide (c = c4)), .bl (decide (c = c5))]) = bs.map V.bl := by rw [← hB]; rfl
  have sm : Same H (upd (upd (upd H p (.lst [V.bl (decide (c = c0)), .bl (decide (c = c1)), .bl (decide (c = c2)), .bl (decide (c = c3))])) p2 (.lst [V.bl (decide (c = c4)), .bl (decide (c = c5))])) p3 (.lst ([V.bl (decide (c = c0)), .bl (decide (c = c1)), .bl (decide (c = c2)), .bl (decide (c = c3))] ++ [V.bl (decide (c = c4)), .bl (decide (c = c5))]))) := ((same_upd hp).trans (same_upd hp2)).trans (same_upd hp3)
  rw [hl] at sm
  rw [hl]
  generalize hH : upd (upd (upd H p (.lst [V.bl (decide (c = c0)), .bl (decide (c = c1)), .bl (decide (c = c2)), .bl (decide (c = c3))])) p2 (.lst [V.bl (decide (c = c4)), .bl (decide (c = c5))])) p3 (.lst (bs.map V.bl)) = H3 at sm
  have h3 : H3 p3 = some (.lst (bs.map V.bl)) := by rw [← hH]; exact upd_same
  refine ⟨.ref p3, rfl, .inl ⟨rfl, _, SqL.of h3⟩, p3, bs, true, rfl, rfl, SqL.of h3, ?_⟩
  refine ⟨.int ((bs.count true : Nat) : Int), .int 1, .int _, .int _, shaped_int _, shaped_int _, ?_⟩
  refine ⟨_, rfl, ?_⟩
  rw [hc]
  refine iteF (isE_ty (six.ex c) rfl (six.val c) ⟨true, rfl, iteF ?_⟩)
  have idx : bs[[c0, c1, c2, c3, c4, c5].idxOf c]? = some true ∧ ∀ m z, m < [c0, c1, c2, c3, c4, c5].idxOf c → bs[m]? = some z → z ≠ true := by
    rw [← hB] at hc ⊢
    exact idx_map (L := [c0, c1, c2, c3, c4, c5]) (c := c) (by rw [show [c0, c1, c2, c3, c4, c5].map (fun x => decide (c = x)) = [decide (c = c0), decide (c = c1), decide (c = c2), decide (c = c3), decide (c = c4), decide (c = c5)] from rfl, hc]; exact Nat.one_pos)
  refine ⟨.ref p3, rfl, .inl ⟨rfl, _, SqL.of h3⟩, p3, bs.map V.bl, .bl true, _, .bl true, rfl, rfl, SqL.of h3, rfl, ?_, ?_, ?_, fun m z' hm hz => ?_, q _ sm⟩
  · rw [List.all_map]
    exact List.all_eq_true.mpr fun _ _ => rfl
  · rw [List.getElem?_map, idx.1]
    rfl
  · simp [eqV]
  · rw [List.getElem?_map] at hz
    obtain ⟨z, hz1, hz2⟩ := Option.map_eq_some_iff.mp hz
    have := idx.2 m z hm hz1
    rw [← hz2]
    simpa [eqV] using this
end DL

/-! lists side by side, in their order, sorted pairs -/
namespace DL
open PySem L2 TT
/-! ### a < b of lists of ints -/
def rLtLi (K : PySem.W.Frag) : R2 := fun x y H Q => ∃ (ns ms : List Int), Dp K H x (.list (ns.map .int)) ∧ Dp K H y (.list (ms.map .int)) ∧ Q (.bl (PySem.W.listLt ns ms)) H
theorem op_ltLi {X : Cx} (hu : X.A.units + 64 < cLine) : OpR X (compareOp .Lt) (rLtLi X.K) := by
  intro pins s σ H x y v u Q I rx ry h
  obtain ⟨ns, ms, hx, hy, q⟩ := h
  obtain ⟨as, r1⟩ := Dp.reads I _ x v hx rx
  obtain ⟨bs, r2⟩ := Dp.reads I _ y u hy ry
  refine PySem.W.lt_datum (α := List Int) (x := ns) (y := ms) ⟨as, r1⟩ ⟨bs, r2⟩ ?_ ⟨.bl _, H, I, rfl, q⟩
  show X.A.units + (0 + 1) < cLine
  omega
theorem op_ltL (K : PySem.W.Frag) {X : Cx} {k : Nat} (hK : X.K = K) (hr : Room k X.A) : OpR X (compareOp .Lt) (rLtLi K) := by
  subst hK
  have u := hr.un
  exact op_ltLi (by omega)
theorem listLt_lex : ∀ {a b : List Nat}, TT.lexLt a b → PySem.W.listLt (a.map fun x => ((x : Nat) : Int)) (b.map fun x => ((x : Nat) : Int)) = true
  | [], [], h => h.elim
  | [], b :: bs, _ => rfl
  | a :: as, [], h => h.elim
  | a :: as, b :: bs, h => by
    show (if ((a : Nat) : Int) = ((b : Nat) : Int) then PySem.W.listLt (as.map fun x => ((x : Nat) : Int)) (bs.map fun x => ((x : Nat) : Int)) else decide (((a : Nat) : Int) < ((b : Nat) : Int))) = true
    rcases h with h | ⟨h1, h2⟩
    · rw [if_neg (by omega), decide_eq_true (by omega)]
    · rw [if_pos (by rw [h1]), listLt_lex h2]
theorem listLt_self : ∀ (a : List Int), PySem.W.listLt a a = false
  | [] => rfl
  | a :: as => by
    show (if a = a then PySem.W.listLt as as else _) = false
    rw [if_pos rfl, listLt_self as]
section
variable {K : PySem.W.Frag} {env : List Sl} {ta tb te : TE} {tt : L2.TT} {n n0 : Bool} {α β : Type}
theorem jv_ltL {a b : List Nat} (ha : JE K ta env (numsD a)) (hb : JE K tb env (numsD b)) : JV K (tOp (rLtLi K) ta tb) env (.bl (PySem.W.listLt (a.map fun x => ((x : Nat) : Int)) (b.map fun x => ((x : Nat) : Int)))) :=
  Jd.op ha hb fun _ _ _ x y _ H2 _ _ s2 p1 p2 Q q => ⟨a.map fun x => ((x : Nat) : Int), b.map fun x => ((x : Nat) : Int), by rw [List.map_map]; exact Dp.ext s2 p1, by rw [List.map_map]; exact p2, q _ H2 (Same.refl H2) rfl⟩
/-! ### zip -/
theorem jn_lcZ {g : TG} {vs : List Nat} {enc : α → D} {enc2 : β → D} (xs : List α) (ys : List β) (keep : α × β → Bool) (f : α × β → D) (ha : JS K ta env n0 (xs.map enc)) (hb : JS K tb env n0 (ys.map enc2)) (hz : xs.length ≤ 100000)
    (hx : ∀ p, p ∈ xs.zip ys → ∃ env2, TgOk K g (.tuple [enc p.1, enc2 p.2]) n0 (wipeE env vs) env2 vs ∧ Jt K tt env2 (keep p) ∧ (keep p = true → JD K te env2 n (f p))) :
    JN K (tLc (iZip K (tCons ta (tCons tb tNil))) g tt te vs) env n (((xs.zip ys).filter keep).map f) := fun M B σ H Q w e q =>
  ha M B σ H _ w e fun x H0 s0 ⟨a, us, h1, h2, h3⟩ => hb M B σ H0 _ (w.ext s0) (e.ext s0) fun y H1 s1' ⟨b, ws, k1, k2, k3⟩ => by
    have s1 := s0.trans s1'
    have h2' := s1' _ _ h2
    have h3' := (Keep.ext (M := Sn n0 M B) s1').rpA h3
    refine ⟨a, b, us, ws, by rw [h1, k1], SqL.of h2', SqL.of k2, fun Dl hD => ?_⟩
    have lu : us.length = xs.length := by rw [h3.length, List.length_map]
    have lw : ws.length = ys.length := by rw [k3.length, List.length_map]
    have lz : (xs.zip ys).length = min us.length ws.length := by rw [List.length_zip, lu, lw]
    refine lc_it (walk_zip (K := K) (a := a) (b := b) (xs := us) (ys := ws) rfl) (fun k H' => LcAt K M B H1 n Dl (kept keep f (xs.zip ys) k) H') (by unfold kept; rw [List.take_zero]; exact LcAt.start hD) (fun k H' _ L => ⟨SqL.of (L.same _ _ h2'), SqL.of (L.same _ _ k2)⟩) (fun k v H' H2 hk L hy => ?_) (fun H' L => ?_)
    · obtain ⟨T, x1, y1, rfl, hT, rfl, hx1, hy1⟩ := hy
      have hx1' : us[k]? = some x1 := hx1
      have hy1' : ws[k]? = some y1 := hy1
      obtain ⟨p, hp⟩ : ∃ p, (xs.zip ys)[k]? = some p := ⟨_, List.getElem?_eq_getElem (by rw [lz]; exact hk)⟩
      obtain ⟨env2, tg, ht, he⟩ := hx p (List.mem_of_getElem? hp)
      obtain ⟨q1, q2⟩ := List.getElem?_zip_eq_some.mp hp
      obtain ⟨d1, e1, r1⟩ := h3'.getV hx1'
      obtain ⟨d2, e2, r2⟩ := k3.getV hy1'
      rw [List.getElem?_map, q1] at e1
      rw [List.getElem?_map, q2] at e2
      have e1' : enc p.1 = d1 := Option.some.inj e1
      have e2' : enc2 p.2 = d2 := Option.some.inj e2
      rw [← e1'] at r1
      rw [← e2'] at r2
      have sT : Same H' (upd H' T (.tup [x1, y1])) := same_upd hT
      have e' : EnvOk K (fun a => M a ∨ a = Dl) (fun a => B a ∨ a = Dl) (upd H' T (.tup [x1, y1])) (L2.wipe σ vs) (wipeE env vs) := ((e.ext s1).add (L.same.trans sT) hD).wipe vs
      have kp : Keep (Sn n0 M B) (fun a => Sn n0 M B a ∨ a = Dl) H1 (upd H' T (.tup [x1, y1])) := Keep.same (L.same.trans sT) fun a m => m.imp_right fun z => by rw [z]; exact hD
      have rd : Rp K (Sn n0 (fun a => M a ∨ a = Dl) (fun a => B a ∨ a = Dl)) (upd H' T (.tup [x1, y1])) (.ref T) (.tuple [enc p.1, enc2 p.2]) := by
        rw [sn_add]
        exact .tup upd_same (.cons (kp.rp r1) (.cons (kp.rp r2) .nil))
      refine tg.run _ _ (L2.wipe σ vs) _ (.ref T) _ e' rd fun σ2 e2 o2 l2 => ⟨?_, lc_turn hp (by rw [List.length_zip]; omega) (w.ext s1) (L.ext sT) e2 ht he fun H2 L2 => L2⟩
      rw [wipe_eq l2 o2]
      exact wipe_eq (L2.wipe_length _ _) fun j hj => wipe_get hj
    · rw [← lz, kept_all] at L
      exact q _ H' (s1.trans L.same) (L.pn s1)
theorem jn_mapZ {g : TG} {vs : List Nat} {enc : α → D} {enc2 : β → D} (xs : List α) (ys : List β) (f : α × β → D) (ha : JS K ta env n0 (xs.map enc)) (hb : JS K tb env n0 (ys.map enc2)) (hz : xs.length ≤ 100000)
    (hx : ∀ p, p ∈ xs.zip ys → ∃ env2, TgOk K g (.tuple [enc p.1, enc2 p.2]) n0 (wipeE env vs) env2 vs ∧ JD K te env2 n (f p)) :
    JN K (tLc (iZip K (tCons ta (tCons tb tNil))) g tYes te vs) env n ((xs.zip ys).map f) := by
  have h := jn_lcZ (te := te) (tt := tYes) (n := n) xs ys (fun _ => true) f ha hb hz fun p hp => let ⟨env2, h1, h2⟩ := hx p hp; ⟨env2, h1, jt_yes, fun _ => h2⟩
  rw [filter_true] at h
  exact h
/-! ### sorted pairs, in some order; sorted ints -/
theorem RpA.perm {M : As} {H : Hp} {us vs : List V} (p : us.Perm vs) : ∀ {ts : List Tie}, RpA K M H vs (ts.map tieD) → ∃ qs : List Tie, qs.Perm ts ∧ RpA K M H us (qs.map tieD) := by
  induction p with
  | nil => intro ts r; cases ts with
    | nil => exact ⟨[], .nil, .nil⟩
    | cons t ts => cases r
  | cons x _ ih => intro ts r; cases ts with
    | nil => cases r
    | cons t ts => cases r with
      | cons r1 r2 =>
        obtain ⟨qs, h1, h2⟩ := ih r2
        exact ⟨t :: qs, h1.cons t, .cons r1 h2⟩
  | swap x y l => intro ts r; match ts, r with
    | [], r => cases r
    | [_], .cons _ r => cases r
    | a :: b :: ts, .cons r1 (.cons r2 r3) => exact ⟨b :: a :: ts, List.Perm.swap a b ts, .cons r2 (.cons r1 r3)⟩
  | trans _ _ ih1 ih2 => intro ts r; obtain ⟨qs, h1, h2⟩ := ih2 r; obtain ⟨rs, h3, h4⟩ := ih1 h2; exact ⟨rs, h3.trans h1, h4⟩
theorem sortedP_K (K : PySem.W.Frag) {X : Cx} (hK : X.K = K) : CallR X (.builtin "sorted") (rSortedP K) := by subst hK; exact cr_sortedP
theorem jd_sortedP {ts : List Tie} (ha : JS K ta env n (ts.map tieD)) : Jd K (tCB (rSortedP K) (tCons ta tNil)) env (pP K n fun d => ∃ qs : List Tie, qs.Perm ts ∧ d = .list (qs.map tieD)) := jd_cb1 ha fun M B H x H1 w s ⟨a, vs, h1, h2, h3⟩ Q q => by
  rw [h1]
  refine ⟨a, vs, rfl, SqL.of h2, fun x hx => ?_, fun ys p pm np => ?_⟩
  · obtain ⟨i, hi, e⟩ := List.getElem_of_mem hx
    obtain ⟨d, hd, r⟩ := h3.getV (i := i) (v := x) (by rw [List.getElem?_eq_getElem hi, e])
    rw [List.getElem?_map] at hd
    obtain ⟨t, _, rfl⟩ := Option.map_eq_some_iff.mp hd
    obtain ⟨b, us, e1, e2, e3⟩ := Rp.tup_inv r
    have := RpA.two e3
    exact ⟨b, _, _, e1, by rw [e2, this]⟩
  · obtain ⟨qs, hq, r⟩ := RpA.perm pm h3
    refine q _ _ (same_upd np) ⟨_, ⟨qs, hq, rfl⟩, .lst (fun z => (w.ext s).snT n p z np) upd_same ((Keep.ext (same_upd np)).rpA r)⟩
def srtI (ns : List Int) : List Int := ns.mergeSort fun a b => decide (a ≤ b)
theorem srtI_perm (ns : List Int) : (srtI ns).Perm ns := List.mergeSort_perm ns _
theorem srtI_le (ns : List Int) : (srtI ns).Pairwise (· ≤ ·) := (List.pairwise_mergeSort (le := fun a b => decide (a ≤ b)) (fun a b c h1 h2 => by simp at h1 h2 ⊢; omega) (fun a b => by simp; omega) ns).imp fun h => by simpa using h
theorem jn_srt {m : Bool} {ns : List Int} (ha : JS K ta env n (ns.map PyData.int)) (hz : ns.length < 64) : JN K (tCB (rSorted K) (tCons ta tNil)) env m ((srtI ns).map PyData.int) := jn_sorted ha hz (srtI_perm ns) (srtI_le ns)
end
section
variable {C : Ct} {env : List Sl} {te ta tb : TE} {D : Ends} {u : TS} {α β : Type}
/-- over a list of which something is known -/
theorem run_forLP {g : TG} {tb : TS} {n0 : Bool} {enc : α → DL.D} {p : List α → Prop} (I : List α → Nat → List Sl → Prop) (hl : Jd C.K te env (pP C.K n0 fun d => ∃ xs, p xs ∧ d = .list (xs.map enc))) (h0 : ∀ xs, p xs → I xs 0 env)
    (hs : ∀ xs, p xs → ∀ hb k x env1, xs[k]? = some x → I xs k env1 → ∃ env2 js, TgOk C.K g (enc x) n0 env1 env2 js ∧ Run (C.re hb) { D with nx := LoopNx (C.re hb) (I xs) (k + 1), ct := LoopNx (C.re hb) (I xs) (k + 1), bk := u D } tb env2)
    (he : ∀ xs, p xs → ∀ env1, I xs xs.length env1 → Run C D u env1) : Run C D (tSeq (tFor (iList C.K te) g tb) u) env := fun L σ H gd =>
  gd.eval hl fun v H1 s1 g1 ⟨d, ⟨xs, px, ed⟩, r1⟩ => by
    rw [ed] at r1
    obtain ⟨a, us, e1, e2, e3, e4⟩ := Rp.list_inv r1
    have hlen : us.length = xs.length := by rw [e4.length, List.length_map]
    obtain ⟨gb, sb⟩ := g1.rebase
    have na : ¬ L a := fun z => e2 ((sn_or n0 _ _ _ _).mpr (.inr z))
    have ha : hideL L H1 a = some (.lst us) := by rw [hideL_out na]; exact e3
    refine ⟨a, e1, ⟨us, SqL.of e3⟩, ?_⟩
    refine for_list (K := C.K) (a := a) (xs := us) (fun k => LoopNx (C.re (hideL L H1)) (I xs) k) ⟨env, h0 xs px, L, gb⟩ (fun k σ' H' _ ⟨_, _, _, g'⟩ => SqL.of (g'.b1 _ _ ha)) (fun k v σ' H' hk ⟨env1, i1, L1, g'⟩ => ?_) (fun σ' H' ⟨env1, i1, L1, g'⟩ => ?_)
    · have hk' : k < xs.length := by rw [← hlen]; exact (List.getElem?_eq_some_iff.mp hk).1
      have hx := List.getElem?_eq_getElem hk'
      obtain ⟨env2, js, tg, run⟩ := hs xs px (hideL L H1) k _ env1 hx i1
      obtain ⟨d, hd, rd⟩ := e4.getV hk
      have ed : d = enc xs[k] := by
        rw [List.getElem?_map, hx] at hd
        exact (Option.some.inj hd).symm
      rw [ed] at rd
      have k1 : Keep (Sn n0 (fun a => C.M a ∨ L a) (fun a => C.B a ∨ L a)) (Sn n0 (fun a => C.M a ∨ L a) (fun a => C.B a ∨ L a)) H1 (hideL L H1) := .hide (fun b z => (sn_or n0 _ _ _ _).mpr (.inr z)) fun b z => (g1.lf b z).2
      have k2 : Keep (Sn n0 (fun a => C.M a ∨ L a) (fun a => C.B a ∨ L a)) (Sn n0 (fun a => C.M a ∨ L1 a) (fun a => C.B a ∨ L1 a)) (hideL L H1) H' := .same g'.b1 fun b z => by
        rw [sn_or] at z ⊢
        rcases z with z | z
        · exact .inl (.inl z)
        · exact .inr (g'.lf b z).1
      refine GoodL.tg g' tg ((k1.trans k2).rp rd) fun σ2 g2 => ?_
      exact run L1 σ2 H' g2
    · rw [hlen] at i1
      exact he xs px env1 i1 L1 σ' H' (g'.up g1.b0 sb)
/-- over two lists, side by side -/
theorem run_forZ {g : TG} {t0 : TS} {n0 : Bool} {enc : α → DL.D} {enc2 : β → DL.D} (xs : List α) (ys : List β) (I : Nat → List Sl → Prop) (ha : JD C.K ta env n0 (.list (xs.map enc))) (hb' : JD C.K tb env n0 (.list (ys.map enc2))) (h0 : I 0 env)
    (hs : ∀ hb k p env1, (xs.zip ys)[k]? = some p → I k env1 → ∃ env2 js, TgOk C.K g (.tuple [enc p.1, enc2 p.2]) n0 env1 env2 js ∧ Run (C.re hb) { D with nx := LoopNx (C.re hb) I (k + 1), ct := LoopNx (C.re hb) I (k + 1), bk := u D } t0 env2)
    (he : ∀ env1, I (xs.zip ys).length env1 → Run C D u env1) : Run C D (tSeq (tFor (iZip C.K (tCons ta (tCons tb tNil))) g t0) u) env := fun L σ H gd =>
  gd.eval ha fun v0 H0 s0 g0 r0 => g0.eval hb' fun v H1 s1 g1 r1 => by
    have r0' := (Keep.ext s1).rp r0
    obtain ⟨a, us, e1, e2, e3, e4⟩ := Rp.list_inv r0'
    obtain ⟨b, ws, f1, f2, f3, f4⟩ := Rp.list_inv r1
    have lu : us.length = xs.length := by rw [e4.length, List.length_map]
    have lw : ws.length = ys.length := by rw [f4.length, List.length_map]
    have lz : (xs.zip ys).length = min us.length ws.length := by rw [List.length_zip, lu, lw]
    obtain ⟨gb, sb⟩ := g1.rebase
    have na : ¬ L a := fun z => e2 ((sn_or n0 _ _ _ _).mpr (.inr z))
    have nb : ¬ L b := fun z => f2 ((sn_or n0 _ _ _ _).mpr (.inr z))
    have hA : hideL L H1 a = some (.lst us) := by rw [hideL_out na]; exact e3
    have hB : hideL L H1 b = some (.lst ws) := by rw [hideL_out nb]; exact f3
    refine ⟨a, b, us, ws, by rw [e1, f1], SqL.of e3, SqL.of f3, ?_⟩
    refine for_it (walk_zip (K := C.K) (a := a) (b := b) (xs := us) (ys := ws) rfl) (fun k => LoopNx (C.re (hideL L H1)) I k) ⟨env, h0, L, gb⟩ (fun k σ' H' _ ⟨_, _, _, g'⟩ => ⟨SqL.of (g'.b1 _ _ hA), SqL.of (g'.b1 _ _ hB)⟩) (fun k v σ' H' H2 hk ⟨env1, i1, L1, g'⟩ hy => ?_) (fun σ' H' ⟨env1, i1, L1, g'⟩ => ?_)
    · obtain ⟨T, x1, y1, rfl, hT, rfl, hx1, hy1⟩ := hy
      have hx1' : us[k]? = some x1 := hx1
      have hy1' : ws[k]? = some y1 := hy1
      obtain ⟨p, hp⟩ : ∃ p, (xs.zip ys)[k]? = some p := ⟨_, List.getElem?_eq_getElem (by rw [lz]; exact hk)⟩
      obtain ⟨env2, js, tg, run⟩ := hs (hideL L H1) k _ env1 hp i1
      obtain ⟨q1, q2⟩ := List.getElem?_zip_eq_some.mp hp
      obtain ⟨d1, c1, w1⟩ := e4.getV hx1'
      obtain ⟨d2, c2, w2⟩ := f4.getV hy1'
      rw [List.getElem?_map, q1] at c1
      rw [List.getElem?_map, q2] at c2
      have c1' : enc p.1 = d1 := Option.some.inj c1
      have c2' : enc2 p.2 = d2 := Option.some.inj c2
      rw [← c1'] at w1
      rw [← c2'] at w2
      have sT : Same H' (upd H' T (.tup [x1, y1])) := same_upd hT
      have k1 : Keep (Sn n0 (fun a => C.M a ∨ L a) (fun a => C.B a ∨ L a)) (Sn n0 (fun a => C.M a ∨ L a) (fun a => C.B a ∨ L a)) H1 (hideL L H1) := .hide (fun b z => (sn_or n0 _ _ _ _).mpr (.inr z)) fun b z => (g1.lf b z).2
      have k2 : Keep (Sn n0 (fun a => C.M a ∨ L a) (fun a => C.B a ∨ L a)) (Sn n0 (fun a => C.M a ∨ L1 a) (fun a => C.B a ∨ L1 a)) (hideL L H1) H' := .same g'.b1 fun b z => by
        rw [sn_or] at z ⊢
        rcases z with z | z
        · exact .inl (.inl z)
        · exact .inr (g'.lf b z).1
      have kk := (k1.trans k2).trans (Keep.ext sT)
      have rd : Rp C.K (Sn n0 (fun a => C.M a ∨ L1 a) (fun a => C.B a ∨ L1 a)) (upd H' T (.tup [x1, y1])) (.ref T) (.tuple [enc p.1, enc2 p.2]) := .tup upd_same (.cons (kk.rp w1) (.cons (kk.rp w2) .nil))
      refine GoodL.tg (g'.ext sT) tg rd fun σ2 g2 => ?_
      exact run L1 σ2 _ g2
    · rw [← lz] at i1
      exact he env1 i1 L1 σ' H' (g'.up g1.b0 sb)
end
end DL

/-! a def picked out of a list of two, in a try -/
namespace TT
theorem reach_opens {n t : Nat} {ts : List Tie} {S : List Nat} (hb : Inb n ts) (ht : t < ts.length) : (!decide ((ts.getD t (0, 0)).2 ∈ reachL n (pick ts S) (ts.getD t (0, 0)).1)) = opens n ts S t := by
  have b := tie_at hb ht
  unfold opens
  congr 1
  rw [Bool.eq_iff_iff, decide_eq_true_iff, decide_eq_true_iff]
  unfold reachL
  rw [List.mem_filter, List.mem_range, decide_eq_true_iff]
  exact ⟨fun h => h.2.symm, fun h => ⟨b.2, h.symm⟩⟩
end TT
namespace DL
open PySem L2 TT
section
variable {K : PySem.W.Frag} {env : List Sl} {te ta tb tf : TE} {n : Bool} {d : D} {xs : List D} {P : Po}
theorem jv_at2 {x y : V} {k : Nat} (h : JV K te env (.int (k : Int))) (hk : k < 2) : JV K (tOp (rIx K) (tLst (tCons (tC x) (tCons (tC y) tNil))) te) env (if k = 0 then x else y) := fun M B σ H Q w e q =>
  ⟨szl (by simp), fun p hp => h M B σ _ _ (w.ext (same_upd hp)) (e.ext (same_upd hp)) fun v H1 s1 e1 => by
    have e1' : v = .int (k : Int) := e1
    refine .inl ⟨p, [x, y], (k : Int), (if k = 0 then x else y), rfl, e1', SqL.of (s1 _ _ upd_same), ?_, q _ H1 ((same_upd hp).trans s1) rfl⟩
    rcases (show k = 0 ∨ k = 1 by omega) with rfl | rfl <;> rfl⟩
theorem jd_callV1 {f1 f2 : Addr} {sp1 sp2 : Sp} {E : L2.St → XK} {t : TA} (hf : JV K tf env (.ref f1)) (h : JD K (tCallS sp1 E t) env n d) : JD K (tCallV f1 f2 sp1 sp2 E tf t) env n d := fun M B σ H Q w e q =>
  hf M B σ H _ w e fun y H1 s1 p1 => .inl ⟨p1, h M B σ H1 Q (w.ext s1) (e.ext s1) fun v H2 s2 p2 => q v H2 (s1.trans s2) p2⟩
theorem jd_callV2 {f1 f2 : Addr} {sp1 sp2 : Sp} {E : L2.St → XK} {t : TA} (hf : JV K tf env (.ref f2)) (h : JD K (tCallS sp2 E t) env n d) : JD K (tCallV f1 f2 sp1 sp2 E tf t) env n d := fun M B σ H Q w e q =>
  hf M B σ H _ w e fun y H1 s1 p1 => .inr ⟨p1, h M B σ H1 Q (w.ext s1) (e.ext s1) fun v H2 s2 p2 => q v H2 (s1.trans s2) p2⟩
theorem jv_isND (h : JD K te env n (.list xs)) : JV K (tIsN te) env (.bl false) := fun M B σ H Q w e q => h M B σ H _ w e fun x H1 s1 p1 => by
  obtain ⟨a, us, e1, _, _, _⟩ := Rp.list_inv p1
  rw [e1]
  exact q _ H1 s1 rfl
end
section
variable {C : Ct} {env : List Sl} {te tf : TE} {t : TA} {c : Value} {W : WX}
theorem er_callV1 {f1 f2 : Addr} {sp1 sp2 : Sp} {E : L2.St → XK} (hf : JV C.K tf env (.ref f1)) (h : ErW C W (tCallS sp1 E t) env c) : ErW C W (tCallV f1 f2 sp1 sp2 E tf t) env c := fun L σ H Q g q =>
  hf _ _ σ H _ g.w g.ok fun y H1 s1 p1 => .inl ⟨p1, h L σ H1 _ (g.ext s1) fun H' s' g' => q H' (s1.trans s') g'⟩
theorem er_callV2 {f1 f2 : Addr} {sp1 sp2 : Sp} {E : L2.St → XK} (hf : JV C.K tf env (.ref f2)) (h : ErW C W (tCallS sp2 E t) env c) : ErW C W (tCallV f1 f2 sp1 sp2 E tf t) env c := fun L σ H Q g q =>
  hf _ _ σ H _ g.w g.ok fun y H1 s1 p1 => .inr ⟨p1, h L σ H1 _ (g.ext s1) fun H' s' g' => q H' (s1.trans s') g'⟩
theorem er_lstW (h : ErW C W te env c) : ErW C W (tLst (tCons te t)) env c := fun L σ H Q g q => h L σ H _ g q
end
section
variable {C : Ct} {env : List Sl} {te : TE} {D : Ends} {u : TS} {i : Nat}
/-- data of which something is known, new through and through -/
theorem run_treeP {p : DL.D → Prop} (h : Jd C.K te (weakE env) (pP C.K true p)) (nd : ∀ d, p d → noDict d = true) (hi : i < env.length) (k : ∀ d, p d → RunT C D u env i d) : Run C D (tSeq (tAsg te (gName i)) u) env := fun L σ H g => by
  have w : Wf (fun a => C.M a ∨ L a) (fun a => H a ≠ none) H := ⟨g.w.trkM, fun a h => h⟩
  refine h (fun a => C.M a ∨ L a) (fun a => H a ≠ none) σ H _ w (g.ok.weak g.w) fun v H' s r => ?_
  obtain ⟨d, pd, r⟩ := r
  have g1 := g.grow (S := fun a => H a = none ∧ ∃ xs, H' a = some (.lst xs)) s fun a z => z
  have len : i < σ.length := by rw [g.ok.len]; exact hi
  refine k d pd _ (σ.set i (some v)) H' (fun a => H a = none ∧ ∃ xs, H' a = some (.lst xs)) v g1.setUn (fun a z => .inr z) (fun k n ds p h1 h2 => ?_) (List.getElem?_set_self len) ?_
  · by_cases z : i = k
    · subst z
      rw [List.getElem?_set_self hi] at h1
      cases h1
    · rw [List.getElem?_set_ne z] at h1 h2
      obtain ⟨p', us, e1, _, e3, _⟩ := g.ok.sl k _ h1
      rw [h2] at e1
      cases e1
      exact fun q => by rw [q.1] at e3; cases e3
  · have r' : Rp C.K (fun a => H a ≠ none) H' v d := r
    exact Rp.inside (fun a na xs hx => ⟨Classical.byContradiction na, xs, hx⟩) (nd d pd) r'
/-- each list in it has a number more -/
theorem runT_for1 {d : DL.D} {j : Nat} {c : Int} {N0 : Nat} (dss : List (List Int)) (hl : ∀ ns, ns ∈ dss → ns.length ≤ N0) (hz : dss.length + N0 ≤ 90000) (hd : d = .list (dss.map fun ns => .list (ns.map .int))) (hi : i < env.length) (hij : i ≠ j) (hj : j < env.length)
    (k : ∀ es : List DL.D, es.length = dss.length → Run C D u ((env.set i (.own true es)).set j .un)) :
    RunT C D (tSeq (tFor (iList C.K (tVar i)) (gName j) (tDrop (tBM C.K "list" rAppend (tVar j) (tCons (tC (.int c)) tNil)))) u) env i d := by
  have h := runT_for (C := C) (D := D) (u := u) (tt := fun _ H Q => Q false H) (t1 := tNext) (c := c) dss hl hz hd hi hij hj (fun ns _ => fun M B σ H Q w e q => q H (Same.refl H)) k
  exact h
end
end DL

/-! new data, changed in its depths; own lists let go -/
namespace DL
open PySem L2 TT
section
variable {C : Ct} {D : Ends} {u t1 t2 : TS} {env : List Sl} {i j : Nat} {d d' : DL.D} {n : Bool} {te tr : TE} {ds rest : List DL.D} {P : Po}
/-- where a list lies in what slot i holds -/
def Path (C : Ct) (tr : TE) (i : Nat) (d : DL.D) (ds : List DL.D) : Prop := ∀ (σ : L2.St) (H : Hp) (S : As) (v : V) (Q : VK), σ[i]? = some (some v) → Rp C.K (fun a => ¬ S a) H v d → (∀ (q : Addr) (vs : List V), S q → H q = some (.lst vs) → vs.length = ds.length → Q (.ref q) H) → tr σ H Q
theorem atI_head {v : V} {vs : List V} : atI (v :: vs) 0 = some v := by
  have h := atI_map (k := 0) (j := 0) id (v :: vs) V.non rfl (by simp)
  rw [List.map_id] at h
  exact h
theorem path0 : Path C (tOp (rIx C.K) (tVar i) (tC (.int 0))) i (.list (.list ds :: rest)) ds := fun σ H S v Q hv r q => by
  obtain ⟨a, us, rfl, _, ha, ra⟩ := Rp.list_inv r
  cases ra with
  | cons h1 h2 =>
    obtain ⟨b, vs, rfl, nb, hb, rb⟩ := Rp.list_inv h1
    exact ⟨.ref a, hv, .inl ⟨a, _, 0, .ref b, rfl, rfl, SqL.of ha, atI_head, q b vs (Classical.not_not.mp nb) hb rb.length⟩⟩
theorem path01 {x : DL.D} : Path C (tOp (rIx C.K) (tOp (rIx C.K) (tVar i) (tC (.int 0))) (tC (.int 1))) i (.list (.tuple [x, .list ds] :: rest)) ds := fun σ H S v Q hv r q => by
  obtain ⟨a, us, rfl, _, ha, ra⟩ := Rp.list_inv r
  cases ra with
  | cons h1 h2 =>
    obtain ⟨b, vs, rfl, hb, rb⟩ := Rp.tup_inv h1
    cases rb with
    | cons k1 k2 =>
      cases k2 with
      | cons k3 k4 =>
        obtain ⟨c, ws, rfl, nc, hc, rc⟩ := Rp.list_inv k3
        exact ⟨.ref a, hv, .inl ⟨a, _, 0, .ref b, rfl, rfl, SqL.of ha, atI_head, .inr (.inl ⟨b, _, 1, .ref c, rfl, rfl, SqT.of hb, by cases k4; rfl, q c ws (Classical.not_not.mp nc) hc rc.length⟩)⟩⟩
theorem runT_app (hp : Path C tr i d ds) (ha : Jd C.K te (env.set i .un) P) (hz : ds.length + 1 ≤ 90000) (k : Run C D u (env.set i .un)) : RunT C D (tSeq (tDrop (tBM C.K "list" rAppend tr (tCons te tNil))) u) env i d := fun L σ H S v g hS ho hv r => by
  refine hp σ H S v _ hv r fun q vs sq hq lq => ⟨.inl ⟨rfl, vs, SqL.of hq⟩, ?_⟩
  refine ha _ _ σ H _ g.w g.ok fun x H1 s1 _ => ?_
  exact ⟨q, vs, x, rfl, rfl, s1 _ _ hq, szl' (by omega), k L σ _ ((g.ext s1).poke (hS q sq) fun k n ds h1 h2 => ho k n ds q h1 h2 sq)⟩
theorem runT_one (h : RunT C D (tSeq t1 tNext) env i d) : RunT C D t1 env i d := h
theorem runT_assoc (h : RunT C D (tSeq t1 (tSeq t2 u)) env i d) : RunT C D (tSeq (tSeq t1 t2) u) env i d := h
theorem runT_set (h : JD C.K te (env.set i .un) n d') (hij : i ≠ j) (k : RunT C D u (env.set j (.val n d')) i d) : RunT C D (tSeq (tAsg te (gName j)) u) env i d := fun L σ H S v g hS ho hv r => by
  refine h _ _ σ H _ g.w g.ok fun x H1 s1 rx => ?_
  have g1 := (g.ext s1).setVal (i := j) (v := x) rx
  rw [List.set_comm _ _ hij] at g1
  refine k L (σ.set j (some x)) H1 S v g1 hS (fun l m es q h1 h2 => ?_) (by rw [List.getElem?_set_ne (fun z => hij z.symm)]; exact hv) ((Keep.ext s1).rp r)
  have e : ((env.set j (.val n d')).set i .un) = ((env.set i .un).set j (.val n d')) := (List.set_comm _ _ hij).symm
  rw [e] at h1
  by_cases z : j = l
  · subst z
    have hl := (List.getElem?_eq_some_iff.mp h1).1
    rw [List.getElem?_set_self (by rw [List.length_set] at hl; exact hl)] at h1
    cases h1
  · rw [List.getElem?_set_ne z] at h1 h2
    exact ho l m es q h1 h2
/-- an own list is data from here on -/
theorem run_seal (hi : env[i]? = some (.own n ds)) (hf : flts ds = true) (k : Run C D u (env.set i (.val true (.list ds)))) : Run C D u env := fun L σ H g => by
  obtain ⟨p, vs, e1, e2, e3, e4⟩ := g.ok.sl i _ hi
  have ii := (List.getElem?_eq_some_iff.mp hi).1
  have gu : GoodL C L (env.set i .un) σ H := g.weak ⟨by rw [List.length_set], fun l s hl => by
    by_cases z : i = l
    · subst z
      rw [List.getElem?_set_self ii] at hl
      exact .inl (Option.some.inj hl).symm
    · rw [List.getElem?_set_ne z] at hl
      exact .inr hl⟩
  refine k _ σ H (RunT.view (S := fun a => a = p) (v := .ref p) gu (fun a z => by rw [z]; exact g.ol i n ds p hi e1) (fun l m es q h1 h2 z => ?_) e1 (.lst (fun z => z rfl) e3 (RpA.flt hf e4)))
  rw [z] at h2
  by_cases w : i = l
  · subst w
    rw [List.getElem?_set_self ii] at h1
    cases h1
  · rw [List.getElem?_set_ne w] at h1
    exact w (g.di i l p n m ds es hi h1 e1 h2)
end
end DL

/-! the law's def, called by nobody: what stands around it is known -/
namespace DL
open PySem PySem.Spec PyProof.Rows L2 TT
section
variable {P : Program} {w : World} {K : PySem.W.Frag} {mg : Str → Option Value} {base : Heap}
/-- nothing leaves by an error -/
def EN : XK := fun _ _ _ => False
/-- a def, called from where the top calls: its body is read in that very place -/
theorem run_top {x qual : Str} {st : Stmt} {f : Addr} {fd : FuncData} {N ps : List Str} {s : Shared} {H : Hp} {vs : List V} {us : List Value} {Q : VK} (F : Fun K x qual st f fd) (S : FnScope N ps (defScope st)) (lv : vs.length = ps.length) (rv : Vals vs us)
    (e0 : Env0 P w K mg base callerA [] s H) (bt : BindsTo s fd ⟨us, []⟩ (ps.zip us))
    (body : ∀ cdv : Value, ∃ t, PSs (cxOf CX0 P w K mg base N qual (defScope st) f cdv callerA [] s H EN).nox (defBody st) t ∧ t { nx := fun _ H' => Q .non H', rt := Q } (L2.start N vs) H) :
    codeAny (model P w) callerA (.call (.ref f) ⟨us, []⟩) (CR CX0 [] P w H s Q EN) s := by
  obtain ⟨oc, od, kV, doc, pm, an, cdv, ct, osl, rfl, at_f, cd_f⟩ := F.ex
  obtain ⟨t, read, goal⟩ := body cdv
  have still : ∀ b o, base.get? b = some o → s.heap.get? b = some o := fun b o e => (e0.bs b o e).1
  have kin := e0.mod.kin.keeps still
  have places : ∀ p ∈ ps.zip us, (defScope st).names.lookup p.1 = some .local ∨ ((defScope st).names.lookup p.1 = some .cell ∧ ((cellsFrom (s.heap.objs.size + 1) (defScope st).names []).lookup p.1).isSome = true) := fun p hp =>
    (S.par p.1 (List.of_mem_zip (a := p.1) (b := p.2) hp).1).imp id fun z => ⟨z, PySem.W.cellsFrom_some _ _ _ (.inl z)⟩
  refine codeAny_call_function (show callerA.depth < recursionLimit by decide) (kin _ _ at_f) rfl S.co S.gen rfl (PySem.W.codeRec_of kin cd_f) (bt _ _ _ _ (wpAny_newFunctionEnv_cells S.kind places ?_))
  intro env e s1 inC
  subst e
  have inv : Inv (cxOf CX0 P w K mg base N qual (defScope st) f cdv callerA [] s H EN) [] (L2.start N vs) H s1 := inv_start S rfl e0 lv rv inC
  refine ⟨(e0.mod.nolimit.keeps still).keeps inC.toInCall.keep, codeAny_func (wpAny_mono (read.nox.run [] s1 (L2.start N vs) H _ inv goal) (fun out s' got => ?_) fun _ _ z => z)⟩
  match out, got with
  | .ret u, ⟨v, σ', H', J, r, q⟩ => exact ⟨v, H', J.os, J.bare, J.base, J.hok, r, q⟩
  | .next, ⟨σ', H', J, q⟩ => exact ⟨.non, H', J.os, J.bare, J.base, J.hok, rfl, q⟩
  | .brk, ⟨_, _, _, z⟩ => exact z.elim
  | .cont, ⟨_, _, _, z⟩ => exact z.elim
/-- what is held of a script's list that the module does not know -/
def oneH (a : Addr) (o : Obj) (xs : List V) : Hp := fun b => if b = a then some (.frz o (.lst xs)) else none
theorem oneH_at {a : Addr} {o : Obj} {xs : List V} : oneH a o xs a = some (.frz o (.lst xs)) := if_pos rfl
theorem oneH_off {a b : Addr} {o : Obj} {xs : List V} (h : b ≠ a) : oneH a o xs b = none := if_neg h
/-- all that a call needs, from a store in which but the script is held -/
theorem env_of {a : Addr} {vs : List Value} {s : Shared} {mb : Str → Option Value} {H : Hp} (inK : K.In s.heap) (gl : s.heap.Ns mainGlobals mg) (bl : s.heap.Ns builtinsNs mb) (bb : ∀ x : Str, x ≠ "__name__" → mb x = bootBuiltins x) (nol : s.heap.NoLimit) (gens : s.gens = #[])
    (obj : s.heap.get? a = some { cls := .type "list", data := .seq vs.toArray }) (just : ∀ b, H b ≠ none → b = a ∧ K.lookup a = none) (hok : HOk P w H s.heap) : Env0 P w K mg (hidT s.heap H) callerA [] s H := by
  have plain : ∀ {b : Addr} {m : Str → Option Value}, s.heap.Ns b m → (hidT s.heap H).Ns b m := fun {b m} ns => by
    obtain ⟨o, es, ep, ob, od, rest⟩ := ns
    refine ⟨o, es, ep, hidT_get ob (Classical.byContradiction fun held => ?_), od, rest⟩
    rw [(just b held).1, obj] at ob
    rw [← Option.some.inj ob] at od
    exact nomatch od
  have lim : (hidT s.heap H).NoLimit := by
    obtain ⟨m, n1, n2⟩ := nol
    exact ⟨m, plain n1, n2⟩
  have kin : K.In (hidT s.heap H) := fun b o known => hidT_get (inK b o known) (Classical.byContradiction fun held => by
    obtain ⟨e, no⟩ := just b held
    rw [e, no] at known
    cases known)
  exact { frames := rfl, mod := ⟨kin, plain gl, ⟨mb, plain bl, bb⟩, lim⟩, bs := fun _ _ e => of_hidT e, bsz := by rw [hidT_size]; exact Nat.le_refl _, funs := trivial, frf := fun b z => (nomatch (show b ∈ ([] : List Addr) from z)), hok := hok, bare := .of_eq gens }
/-- the script, as it lies there: what is held of it -/
theorem scr_env {a : Addr} {vs : List Value} {ns : List Int} {s : Shared} {mb : Str → Option Value} (inK : K.In s.heap) (gl : s.heap.Ns mainGlobals mg) (bl : s.heap.Ns builtinsNs mb) (bb : ∀ x : Str, x ≠ "__name__" → mb x = bootBuiltins x) (nol : s.heap.NoLimit) (gens : s.gens = #[])
    (obj : s.heap.get? a = some { cls := .type "list", data := .seq vs.toArray }) (nums : IntsAre vs ns) (short : ns.length ≤ sizeLine) : ∃ H : Hp, Env0 P w K mg (hidT s.heap H) callerA [] s H ∧ Only H ∧ SqL K H a (ns.map V.int) := by
  have rep : Vals (ns.map V.int) vs := vals_ints nums
  cases known : K.lookup a with
  | none =>
    have hok : HOk P w (oneH a { cls := .type "list", data := .seq vs.toArray } (ns.map V.int)) s.heap := fun b u hu => by
      by_cases e : b = a
      · subst e
        rw [oneH_at] at hu
        obtain rfl := Option.some.inj hu
        exact ⟨obj, by rw [List.length_map]; exact short, vs, _, rep, obj⟩
      · rw [oneH_off e] at hu
        cases hu
    refine ⟨oneH a { cls := .type "list", data := .seq vs.toArray } (ns.map V.int), env_of inK gl bl bb nol gens obj (fun b held => ⟨Classical.byContradiction fun e => held (oneH_off e), known⟩) hok, fun b => ?_, .inl (.inr ⟨_, oneH_at⟩)⟩
    by_cases e : b = a
    · exact .inr ⟨_, _, by rw [e]; exact oneH_at⟩
    · exact .inl (oneH_off e)
  | some o =>
    have eo := (inK a o known).symm.trans obj
    obtain rfl := Option.some.inj eo
    exact ⟨fun _ => none, env_of inK gl bl bb nol gens obj (fun b held => (held rfl).elim) (fun b u hu => (nomatch (show (none : Option HO) = some u from hu))), fun _ => .inl rfl, .inr ⟨_, vs.toArray, _, known, rfl, rfl, rfl, by rw [List.size_toArray, nums.length]; exact short, by simpa using rep⟩⟩
/-- what the top hears of it -/
theorem top_end {fa a : Addr} {s : Shared} {H : Hp} (only : Only H) (hok : HOk P w H s.heap) (call : codeAny (model P w) callerA (.call (.ref fa) ⟨[.ref a], []⟩) (CR CX0 [] P w H s (fun v _ => v = .bl true) EN) s) :
    codeAny (model P w) callerA (.call (.ref fa) ⟨[.ref a], []⟩) (fun r s' => r = .ok (.ret (.bool true)) ∧ OldK s.heap s'.heap ∧ s'.os = s.os ∧ AllBare s'.gens) s := by
  refine codeAny_mono call fun r s' got => ?_
  match r, got with
  | .ok (.ret u), ⟨v, H', os, bare, un, hok', rel, e⟩ =>
    have e' : v = .bl true := e
    subst e'
    have eu : u = Value.bool true := rel
    refine ⟨by rw [eu], .of_keep fun b o ob => ?_, os, bare⟩
    rcases only b with free | ⟨o1, xs, held⟩
    · exact un.keep b o ob free (fun z => (nomatch (show b ∈ ([] : List Addr) from z))) fun z => (nomatch (show b ∈ ([] : List Addr) from z))
    · obtain ⟨e1, _⟩ := hok b _ held
      obtain ⟨e2, _⟩ := hok' b _ (un.frzs b o1 _ held)
      rw [← Option.some.inj (e1.symm.trans ob)]
      exact e2
  | .ok .next, z => exact False.elim z
  | .ok .brk, z => exact False.elim z
  | .ok .cont, z => exact False.elim z
  | .error _, z => exact False.elim z
/-- what the law's own def keeps to, called from the top -/
def FnTop (P : Program) (w : World) (K : PySem.W.Frag) (mg : Str → Option Value) (fa : Addr) (fd : FuncData) (x : Str) : Prop :=
  ∀ (base : Heap) (s : Shared) (H : Hp) (a : Addr) (ns : List Int), Env0 P w K mg base callerA [] s H → SqL K H a (ns.map V.int) → ns.length ≤ 63 → (∀ z ∈ ns, Builtin.Int.intBits z ≤ 1048576) → BindsTo s fd ⟨[.ref a], []⟩ [(x, .ref a)] →
    codeAny (model P w) callerA (.call (.ref fa) ⟨[.ref a], []⟩) (CR CX0 [] P w H s (fun v _ => v = .bl true) EN) s
/-- the law's def, by its body -/
theorem fnTop {x qual y : Str} {st : Stmt} {f : Addr} {fd : FuncData} {N : List Str} {k : Nat} (cl : XC → Addr) (F : Fun K x qual st f fd) (S : FnScope N [y] (defScope st)) (hr : Room (k + 1) callerA)
    (body : ∀ (base : Heap) (cdv : Value) (s : Shared) (M B : As) (H : Hp) (Q : VK) (ds : List D), Room k (callerA.deeper (PyProof.Rows.envOfC qual (defScope st) s.heap.objs.size f cdv)) → preLaw ds → Wf M B H → (∀ out, postLaw ds out → OutOk K cl M B true H Q EN out) →
      ∃ t, PSs (cxOf CX0 P w K mg base N qual (defScope st) f cdv callerA [] s H EN).nox (defBody st) t ∧ Run ⟨K, M, B, H, H⟩ { nx := fun _ H' => Q .non H', rt := Q } t (argEnv [false] ds N.length)) : FnTop P w K mg f fd y := by
  intro base s H a ns e0 hS short bits bt
  obtain ⟨M, B, ds, wf, rf, pre, post⟩ := law_sp (cl := cl) short bits hS
  refine run_top (vs := [V.ref a]) (us := [Value.ref a]) F S rfl (.cons rfl .nil) e0 bt fun cdv => ?_
  obtain ⟨t, read, run⟩ := body base cdv s M B H _ ds (hr.deeper _) pre wf post
  refine ⟨t, read, run (fun _ => False) _ H ⟨Same.refl H, Same.refl H, wf, fun a z => z.elim, ?_, fun i j p n m ds es h1 => absurd h1 (argEnv_noOwn i n ds), fun i n ds p h1 => absurd h1 (argEnv_noOwn i n ds)⟩⟩
  have e1 : (fun a => M a ∨ False) = M := funext fun a => propext ⟨fun z => z.elim id fun y => y.elim, .inl⟩
  have e2 : (fun a => B a ∨ False) = B := funext fun a => propext ⟨fun z => z.elim id fun y => y.elim, .inl⟩
  show EnvOk K (fun a => M a ∨ False) (fun a => B a ∨ False) H _ _
  rw [e1, e2]
  exact start_ok N rf
end
/-- the law's row, from what its def keeps to -/
theorem walk_top {l : PySem.W.OpenLaw} {q : Program} {loose : List Str} {XP : (Str → Option Value) → Heap → Prop} {YP : World → Heap → Prop} {d : DefRec} {Kp : Params → PySem.W.Frag} {x : Str} (most : l.most = some 63) (plain : d.params.defaults = []) (known : ∀ (w : World) (h : Heap), YP w h → (Kp w.params).In h)
    (F : ∀ (w : World) (mg : Str → Option Value) (fa : Addr) (h : Heap), (Kp w.params).In h → h.Ns mainGlobals mg → mg d.name = some (.ref fa) → ∃ fd : FuncData, (∀ (s : Shared) (u : Value), BindsTo s fd ⟨[u], []⟩ [(x, u)]) ∧ FnTop l.prog w (Kp w.params) mg fa fd x) :
    PySem.W.WalkO q loose XP YP l.row.toRowW d [] (fun f vs => PySem.call f vs) := by
  refine Att.attach_callB most plain ?_
  intro w _ s mg _ fa _ _ _ _ a _ ns ground Y _ _ _ at_law obj nums short bits gens
  have inK := known w _ Y
  obtain ⟨fd, binds, top⟩ := F w mg fa _ inK ground.T.g at_law
  obtain ⟨H, e0, only, hS⟩ := scr_env (P := l.prog) (w := w) inK ground.T.g ground.T.b ground.T.builtins ground.T.nolimit gens obj nums (Nat.le_trans short (by decide))
  exact top_end only e0.hok (top _ s H a ns e0 hS short bits (binds s _))
/-! ### str -/
mutual
theorem no_hasDict : ∀ d : D, noDict d = true → d.hasDict = false
  | .none, _ => rfl
  | .bool _, _ => rfl
  | .int _, _ => rfl
  | .str _, _ => rfl
  | .list ds, h => no_hasDicts ds (by simpa [noDict] using h)
  | .tuple ds, h => no_hasDicts ds (by simpa [noDict] using h)
  | .dict _, h => by simp [noDict] at h
theorem no_hasDicts : ∀ ds : List D, noDicts ds = true → PyData.hasDictAll ds = false
  | [], _ => rfl
  | d :: ds, h => by
    have h' : noDict d = true ∧ noDicts ds = true := by simpa [noDicts] using h
    show (d.hasDict || PyData.hasDictAll ds) = false
    rw [no_hasDict d h'.1, no_hasDicts ds h'.2]
    rfl
end
/-- what str tells -/
def strD : D → Str
  | .str x => x
  | d => d.shown
/-- what str is asked for here -/
structure StrOk (d : D) : Prop where
  form : noDict d = true ∨ d = .dict [] ∨ ∃ i : Int, d = .tuple [.int i, .dict []]
  show_ : d.showable = true
  deep : d.depth ≤ 8
  len : d.shown.length ≤ sizeLine
section
variable {K : PySem.W.Frag} {X : Cx} {pins : List (Addr × Obj)} {σ : L2.St} {H : Hp} {s : Shared}
theorem reads_dict0 {M : As} {v : V} {u : Value} (I : Inv X pins σ H s) (rp : Rp K M H v (.dict [])) (ru : RelV v u) : ∃ a, u = .ref a ∧ Reads s.heap u (.dict []) [a] ∧ sysModules ≠ a := by
  cases rp with
  | dct h1 h2 =>
    rename_i a
    have eu : u = Value.ref a := ru
    obtain ⟨_, other, vs, kv, o, es, ep, ob, ex, od, _, prs, _⟩ := I.hok a _ h2
    have ev : vs = [] := by cases kv; rfl
    subst ev
    have ee : es.toList = [] := by
      cases e : es.toList with
      | nil => rfl
      | cons x xs => rw [e] at prs; cases prs
    refine ⟨a, eu, ?_, fun z => by rw [← z] at other; simp at other⟩
    rw [eu]
    exact Reads.dict (as := []) (bs := []) ob ex.1 od (by rw [ee]; exact .nil) (by rw [ee]; exact .nil)
theorem str_reads {M : As} {d : D} {v : V} {u : Value} (I : Inv X pins σ H s) (rp : Rp X.K M H v d) (ru : RelV v u) (h : noDict d = true ∨ d = .dict [] ∨ ∃ i : Int, d = .tuple [.int i, .dict []]) : ∃ as, Reads s.heap u d as ∧ (d.hasDict = true → sysModules ∉ as) := by
  rcases h with h | rfl | ⟨i, rfl⟩
  · obtain ⟨as, r⟩ := Dp.reads I d v u (Rp.dp rp h) ru
    exact ⟨as, r, fun z => by rw [no_hasDict d h] at z; cases z⟩
  · obtain ⟨a, _, r, n⟩ := reads_dict0 I rp ru
    exact ⟨_, r, fun _ z => n (List.mem_singleton.mp z)⟩
  · obtain ⟨a, us, rfl, hd, ra⟩ := Rp.tup_inv rp
    have eu : u = Value.ref a := ru
    obtain ⟨its, rv, ⟨o, ho, hc, n, od⟩, _⟩ := I.tuple (SqT.of hd)
    cases ra with
    | cons r1 r2 =>
      cases r2 with
      | cons r3 r4 =>
        cases r4
        cases r1
        match its, rv with
        | [u1, u2], .cons k1 (.cons k2 .nil) =>
          obtain ⟨t, rfl⟩ := k1
          obtain ⟨b, eb, rb, nb⟩ := reads_dict0 I r3 k2
          refine ⟨[b], ?_, fun _ z => nb (List.mem_singleton.mp z)⟩
          rw [eu]
          exact Reads.tuple ho hc od (ReadsAll.cons (as := []) (.int i t) (ReadsAll.cons (as := [b]) (bs := []) rb .nil))
/-- str(x) -/
def rStrD (K : PySem.W.Frag) : List V → Hp → VK → Prop := fun vs H Q => ∃ (v : V) (d : D) (M : As), vs = [v] ∧ Rp K M H v d ∧ StrOk d ∧ Q (.str (strD d)) H
theorem cr_strD (hg : X.A.guards = some []) (hu : X.A.units + 16 < cLine) : CallR X (.type "str") (rStrD X.K) := by
  intro pins s σ H vs us Q I r h
  obtain ⟨v, d, M, rfl, rp, ok, q⟩ := h
  obtain ⟨u, rfl, ru⟩ := r.one
  have far : ∀ {a : Addr}, u = .ref a → strD d = d.shown → wpAny (model X.prog X.w) X.A (call (.type "str") [u]) (EP X pins σ Q) X.xe s := fun {a} eu es => by
    obtain ⟨as, rd, nd⟩ := str_reads I rp ru ok.form
    rw [eu] at rd ⊢
    rw [es] at q
    exact str_of_reads rd ok.show_ nd hg (by have := ok.deep; omega) (fun _ _ e => e) (fun h' t tk k => ⟨.str _, H, I.kept k, ⟨t, rfl⟩, q⟩) ok.len
  cases rp with
  | non =>
    cases ru
    exact P.str_of_none ⟨.str _, H, I.tok _, ⟨_, rfl⟩, q⟩
  | bl b =>
    cases ru
    exact P.str_of_bool ⟨.str _, H, I.tok _, ⟨_, rfl⟩, q⟩
  | int i =>
    obtain ⟨t, rfl⟩ := ru
    exact P.str_of_int (by simpa [PyData.showable] using ok.show_) ⟨.str _, H, I.tok _, ⟨_, rfl⟩, q⟩
  | str x =>
    obtain ⟨t, rfl⟩ := ru
    exact P.str_of_str ⟨.str x, H, I, ⟨_, rfl⟩, q⟩
  | lst h1 h2 h3 => exact far ru rfl
  | tup h2 h3 => exact far ru rfl
  | dct h1 h2 => exact far ru rfl
  | scr h1 => exact far ru rfl
theorem str_K (K : PySem.W.Frag) (hK : X.K = K) {k : Nat} (hg : X.A.guards = some []) (hr : Room k X.A) : CallR X (.type "str") (rStrD K) := by
  subst hK
  have u := hr.un
  exact cr_strD hg (by omega)
end
section
variable {K : PySem.W.Frag} {env : List Sl} {te : TE} {n : Bool} {d : D}
theorem jv_strD (h : JD K te env n d) (ok : StrOk d) : JV K (tCB (rStrD K) (tCons te tNil)) env (.str (strD d)) := jd_cb1 h fun M B H x H1 w s r Q q => ⟨x, d, _, rfl, r, ok, q _ _ (Same.refl _) rfl⟩
end
end DL

/-! small data: what is shown of it is short -/
namespace DL
open PySem L2 TT
structure Sml (j m : Nat) (d : D) : Prop where
  nd : noDict d = true
  sh : d.showable = true
  dp : d.depth ≤ j
  ls : d.leavesShort 64 = true
  wt : d.weight ≤ m
theorem Sml.mono {j m j' m' : Nat} {d : D} (h : Sml j m d) (h1 : j ≤ j' := by omega) (h2 : m ≤ m' := by omega) : Sml j' m' d := ⟨h.nd, h.sh, Nat.le_trans h.dp h1, h.ls, Nat.le_trans h.wt h2⟩
theorem sml_int {i : Int} (h : i.natAbs < 10 ^ 30) : Sml 0 110 (.int i) := by
  have p : i.natAbs < 2 ^ 100 := Nat.lt_trans h (by decide)
  have lg : i.natAbs.log2 < 101 := by
    by_cases z : i.natAbs = 0
    · rw [z]; decide
    · exact Nat.lt_succ_of_lt ((Nat.log2_lt z).mpr p)
  refine ⟨rfl, ?_, Nat.le_refl 0, ?_, ?_⟩
  · show decide (i.natAbs.log2 < 1920) = true
    exact decide_eq_true (by omega)
  · show decide ((PyData.shown (.int i)).length ≤ 64) = true
    refine decide_eq_true ?_
    show (Str.ofString (toString i)).length ≤ 64
    rw [ofString_length]
    have := int_text_length_le10 (k := 30) (by decide) h
    omega
  · show (if i == 0 then 0 else i.natAbs.log2 + 1) ≤ 110
    split <;> omega
theorem sml_bool (b : Bool) : Sml 0 110 (.bool b) := ⟨rfl, rfl, Nat.le_refl 0, rfl, Nat.zero_le _⟩
theorem sml_none : Sml 0 110 .none := ⟨rfl, rfl, Nat.le_refl 0, rfl, Nat.zero_le _⟩
theorem sml_str {x : Str} (h : (x.cps.toList.all fun c => decide (c < 16 ^ 8)) = true) (l : x.cps.size ≤ 110) : Sml 0 110 (.str x) := ⟨rfl, rfl, Nat.le_refl 0, h, l⟩
theorem smls {j m : Nat} : ∀ {ds : List D}, (∀ d, d ∈ ds → Sml j m d) → noDicts ds = true ∧ PyData.showableAll ds = true ∧ PyData.depthAll ds ≤ j ∧ PyData.leavesShortAll 64 ds = true ∧ PyData.weightAll ds ≤ ds.length * (m + 1)
  | [], _ => ⟨rfl, rfl, Nat.zero_le _, rfl, Nat.zero_le _⟩
  | d :: ds, h => by
    have a := h d (List.mem_cons_self ..)
    obtain ⟨b1, b2, b3, b4, b5⟩ := smls fun x hx => h x (List.mem_cons_of_mem _ hx)
    refine ⟨?_, ?_, ?_, ?_, ?_⟩
    · show (noDict d && noDicts ds) = true
      rw [a.nd, b1]; rfl
    · show (d.showable && PyData.showableAll ds) = true
      rw [a.sh, b2]; rfl
    · show max d.depth (PyData.depthAll ds) ≤ j
      have := a.dp
      omega
    · show (d.leavesShort 64 && PyData.leavesShortAll 64 ds) = true
      rw [a.ls, b4]; rfl
    · show d.weight + 1 + PyData.weightAll ds ≤ (ds.length + 1) * (m + 1)
      have := a.wt
      rw [Nat.add_mul, Nat.one_mul]
      omega
theorem sml_list {j m l : Nat} {ds : List D} (h : ∀ d, d ∈ ds → Sml j m d) (hl : ds.length ≤ l) : Sml (j + 1) (l * (m + 1)) (.list ds) := by
  obtain ⟨b1, b2, b3, b4, b5⟩ := smls h
  exact ⟨b1, b2, Nat.succ_le_succ b3, b4, Nat.le_trans b5 (Nat.mul_le_mul_right _ hl)⟩
theorem sml_tuple {j m l : Nat} {ds : List D} (h : ∀ d, d ∈ ds → Sml j m d) (hl : ds.length ≤ l) : Sml (j + 1) (l * (m + 1)) (.tuple ds) := by
  obtain ⟨b1, b2, b3, b4, b5⟩ := smls h
  exact ⟨b1, b2, Nat.succ_le_succ b3, b4, Nat.le_trans b5 (Nat.mul_le_mul_right _ hl)⟩
theorem Sml.ok {j m : Nat} {d : D} (h : Sml j m d) (h1 : j ≤ 8 := by omega) (h2 : m ≤ 200000 := by omega) : StrOk d := ⟨.inl h.nd, h.sh, Nat.le_trans h.dp h1, by
  have := PyData.shown_le 64 (by decide) d h.ls
  have w := h.wt
  show d.shown.length ≤ 16777216
  omega⟩
theorem ok_dict0 : StrOk (.dict []) := ⟨.inr (.inl rfl), rfl, by decide, by
  have := PyData.shown_le 64 (by decide) (.dict []) rfl
  have w : (PyData.dict []).weight = 0 := rfl
  show (PyData.dict []).shown.length ≤ 16777216
  omega⟩
theorem ok_pair0 {i : Int} (h : i.natAbs < 10 ^ 30) : StrOk (.tuple [.int i, .dict []]) := by
  have a := sml_int h
  refine ⟨.inr (.inr ⟨i, rfl⟩), ?_, by show 2 ≤ 8; decide, ?_⟩
  · show ((PyData.int i).showable && (true && true)) = true
    rw [a.sh]
    rfl
  · have := PyData.shown_le 64 (by decide) (.tuple [.int i, .dict []]) (by
      show ((PyData.int i).leavesShort 64 && (true && true)) = true
      rw [a.ls]
      rfl)
    have w : (PyData.tuple [.int i, .dict []]).weight = (PyData.int i).weight + 1 + (0 + 1 + 0) := rfl
    have := a.wt
    show (PyData.tuple [.int i, .dict []]).shown.length ≤ 16777216
    omega
section
variable {K : PySem.W.Frag} {env : List Sl} {n : Bool}
/-- {} -/
theorem jd_dict0 : JD K tDNewK env n (.dict []) := fun M B σ H Q w e q p hp => q _ _ (same_upd hp) (.dct (fun z => w.snT n p z hp) upd_same)
theorem jv_eqS {ta tb : TE} {x : Str} (ha : JV K ta env (.str x)) (hb : JV K tb env (.str x)) : JV K (tOp rEq ta tb) env (.bl true) := jv_op ha hb fun H Q q => ⟨rfl, by rw [decide_eq_true rfl]; exact q⟩
end
end DL

namespace Tr
open PySem L2 DL
def topS (i : Nat) : Stmt := PySem.Challenge.pw_treetally_k02_what_is_no_net.main.body.getD i (.Pass ⟨0, 0, 0, 0⟩)
abbrev s_is_below : Stmt := topS 11
theorem sc_is_below : FnScope ["thing", "bound"] ["thing", "bound"] (defScope s_is_below) := ⟨rfl, rfl, rfl, by decide +kernel, rfl, by decide +kernel, by decide +kernel⟩
abbrev s_is_tie : Stmt := topS 12
theorem sc_is_tie : FnScope ["thing", "many"] ["thing", "many"] (defScope s_is_tie) := ⟨rfl, rfl, rfl, by decide +kernel, rfl, by decide +kernel, by decide +kernel⟩
abbrev s_need_net : Stmt := topS 13
theorem sc_need_net : FnScope ["many", "ties", "tie"] ["many", "ties"] (defScope s_need_net) := ⟨rfl, rfl, rfl, by decide +kernel, rfl, by decide +kernel, by decide +kernel⟩
abbrev s_need_tie : Stmt := topS 14
theorem sc_need_tie : FnScope ["ties", "tie"] ["ties", "tie"] (defScope s_need_tie) := ⟨rfl, rfl, rfl, by decide +kernel, rfl, by decide +kernel, by decide +kernel⟩
abbrev s_marks_of : Stmt := topS 15
theorem sc_marks_of : FnScope ["many", "ties", "marks", "one", "other", "low", "high", "mark"] ["many", "ties"] (defScope s_marks_of) := ⟨rfl, rfl, rfl, by decide +kernel, rfl, by decide +kernel, by decide +kernel⟩
abbrev s_parts_of : Stmt := topS 16
theorem sc_parts_of : FnScope ["many", "ties", "marks", "place", "least"] ["many", "ties"] (defScope s_parts_of) := ⟨rfl, rfl, rfl, by decide +kernel, rfl, by decide +kernel, by decide +kernel⟩
abbrev s_hangs : Stmt := topS 17
theorem sc_hangs : FnScope ["many", "ties"] ["many", "ties"] (defScope s_hangs) := ⟨rfl, rfl, rfl, by decide +kernel, rfl, by decide +kernel, by decide +kernel⟩
abbrev s_net_without : Stmt := topS 18
theorem sc_net_without : FnScope ["many", "ties", "tie"] ["many", "ties", "tie"] (defScope s_net_without) := ⟨rfl, rfl, rfl, by decide +kernel, rfl, by decide +kernel, by decide +kernel⟩
abbrev s_moved_place : Stmt := topS 19
theorem sc_moved_place : FnScope ["place", "low", "high"] ["place", "low", "high"] (defScope s_moved_place) := ⟨rfl, rfl, rfl, by decide +kernel, rfl, by decide +kernel, by decide +kernel⟩
abbrev s_net_together : Stmt := topS 20
theorem sc_net_together : FnScope ["many", "ties", "tie", "left", "low", "high", "one", "other"] ["many", "ties", "tie"] (defScope s_net_together) := ⟨rfl, rfl, rfl, by decide +kernel, rfl, by decide +kernel, by decide +kernel⟩
abbrev s_first_row : Stmt := topS 22
theorem sc_first_row : FnScope ["rows", "at", "k"] ["rows", "at"] (defScope s_first_row) := ⟨rfl, rfl, rfl, by decide +kernel, rfl, by decide +kernel, by decide +kernel⟩
abbrev s_swept : Stmt := topS 23
theorem sc_swept : FnScope ["rows", "at", "last", "top", "found", "row", "k"] ["rows", "at", "last"] (defScope s_swept) := ⟨rfl, rfl, rfl, by decide +kernel, rfl, by decide +kernel, by decide +kernel⟩
abbrev s_worth_of : Stmt := topS 24
theorem sc_worth_of : FnScope ["rows", "row", "side", "last", "at", "k"] ["rows"] (defScope s_worth_of) := ⟨rfl, rfl, rfl, by decide +kernel, rfl, by decide +kernel, by decide +kernel⟩
abbrev s_between : Stmt := topS 26
theorem sc_between : FnScope ["ties", "one", "other", "tie"] ["ties", "one", "other"] (defScope s_between) := ⟨rfl, rfl, rfl, by decide +kernel, rfl, by decide +kernel, by decide +kernel⟩
abbrev s_row_at : Stmt := topS 27
theorem sc_row_at : FnScope ["many", "ties", "place", "row", "other", "tie"] ["many", "ties", "place"] (defScope s_row_at) := ⟨rfl, rfl, rfl, by decide +kernel, rfl, by decide +kernel, by decide +kernel⟩
abbrev s_table_of : Stmt := topS 28
theorem sc_table_of : FnScope ["many", "ties", "place"] ["many", "ties"] (defScope s_table_of) := ⟨rfl, rfl, rfl, by decide +kernel, rfl, by decide +kernel, by decide +kernel⟩
abbrev s_tally : Stmt := topS 29
theorem sc_tally : FnScope ["many", "ties", "row"] ["many", "ties"] (defScope s_tally) := ⟨rfl, rfl, rfl, by decide +kernel, rfl, by decide +kernel, by decide +kernel⟩
abbrev s_is_rising : Stmt := topS 31
theorem sc_is_rising : FnScope ["some", "bound", "one", "k"] ["some", "bound"] (defScope s_is_rising) := ⟨rfl, rfl, rfl, by decide +kernel, rfl, by decide +kernel, by decide +kernel⟩
abbrev s_is_hanging : Stmt := topS 32
theorem sc_is_hanging : FnScope ["many", "ties", "some", "tie"] ["many", "ties", "some"] (defScope s_is_hanging) := ⟨rfl, rfl, rfl, by decide +kernel, rfl, by decide +kernel, by decide +kernel⟩
abbrev s_is_open : Stmt := topS 33
theorem sc_is_open : FnScope ["many", "ties", "some", "tie", "marks", "one"] ["many", "ties", "some", "tie"] (defScope s_is_open) := ⟨rfl, rfl, rfl, by decide +kernel, rfl, by decide +kernel, by decide +kernel⟩
abbrev s_led_on : Stmt := topS 34
theorem sc_led_on : FnScope ["many", "ties", "some", "tie", "found", "one"] ["many", "ties", "some", "tie"] (defScope s_led_on) := ⟨rfl, rfl, rfl, by decide +kernel, rfl, by decide +kernel, by decide +kernel⟩
abbrev s_all_hangings : Stmt := topS 35
theorem sc_all_hangings : FnScope ["many", "ties", "most", "rows", "tie", "more", "some"] ["many", "ties", "most"] (defScope s_all_hangings) := ⟨rfl, rfl, rfl, by decide +kernel, rfl, by decide +kernel, by decide +kernel⟩
abbrev s_goings_on : Stmt := topS 37
theorem sc_goings_on : FnScope ["many", "ties", "some", "tie", "marks", "one", "names", "left", "other"] ["many", "ties", "some", "tie"] (defScope s_goings_on) := ⟨rfl, rfl, rfl, by decide +kernel, rfl, by decide +kernel, by decide +kernel⟩
abbrev s_with_tie : Stmt := topS 38
theorem sc_with_tie : FnScope ["many", "ties", "some", "tie"] ["many", "ties", "some", "tie"] (defScope s_with_tie) := ⟨rfl, rfl, rfl, by decide +kernel, rfl, by decide +kernel, by decide +kernel⟩
abbrev s_hanging_of : Stmt := topS 39
theorem sc_hanging_of : FnScope ["many", "ties", "number", "some", "tie", "ahead"] ["many", "ties", "number"] (defScope s_hanging_of) := ⟨rfl, rfl, rfl, by decide +kernel, rfl, by decide +kernel, by decide +kernel⟩
abbrev s_number_of : Stmt := topS 40
theorem sc_number_of : FnScope ["many", "ties", "some", "number", "tie", "one"] ["many", "ties", "some"] (defScope s_number_of) := ⟨rfl, rfl, rfl, by decide +kernel, rfl, by decide +kernel, by decide +kernel⟩
abbrev s_share_of : Stmt := topS 42
theorem sc_share_of : FnScope ["many", "ties", "tie", "less", "left"] ["many", "ties", "tie"] (defScope s_share_of) := ⟨rfl, rfl, rfl, by decide +kernel, rfl, by decide +kernel, by decide +kernel⟩
abbrev s_standing : Stmt := topS 43
theorem sc_standing : FnScope ["many", "ties", "tie"] ["many", "ties"] (defScope s_standing) := ⟨rfl, rfl, rfl, by decide +kernel, rfl, by decide +kernel, by decide +kernel⟩
abbrev s_need_hanging : Stmt := topS 45
theorem sc_need_hanging : FnScope ["many", "ties", "some"] ["many", "ties", "some"] (defScope s_need_hanging) := ⟨rfl, rfl, rfl, by decide +kernel, rfl, by decide +kernel, by decide +kernel⟩
abbrev s_nearer : Stmt := topS 46
theorem sc_nearer : FnScope ["many", "ties", "now", "goal", "comes", "tie", "goes", "some"] ["many", "ties", "now", "goal"] (defScope s_nearer) := ⟨rfl, rfl, rfl, by decide +kernel, rfl, by decide +kernel, by decide +kernel⟩
abbrev s_exchanges : Stmt := topS 47
theorem sc_exchanges : FnScope ["many", "ties", "one", "other", "now", "found", "turn", "tie"] ["many", "ties", "one", "other"] (defScope s_exchanges) := ⟨rfl, rfl, rfl, by decide +kernel, rfl, by decide +kernel, by decide +kernel⟩
abbrev s__law_cell_at : Stmt := topS 49
theorem sc__law_cell_at : FnScope ["_law_script", "_law_k"] ["_law_script", "_law_k"] (defScope s__law_cell_at) := ⟨rfl, rfl, rfl, by decide +kernel, rfl, by decide +kernel, by decide +kernel⟩
abbrev s__law_mixed : Stmt := topS 50
theorem sc__law_mixed : FnScope ["_law_script", "_law_k"] ["_law_script", "_law_k"] (defScope s__law_mixed) := ⟨rfl, rfl, rfl, by decide +kernel, rfl, by decide +kernel, by decide +kernel⟩
abbrev s__law_tree : Stmt := topS 51
theorem sc__law_tree : FnScope ["_law_script", "_law_many", "_law_ties", "_law_k", "_law_cell", "_law_pair"] ["_law_script", "_law_many"] (defScope s__law_tree) := ⟨rfl, rfl, rfl, by decide +kernel, rfl, by decide +kernel, by decide +kernel⟩
abbrev s__law_net : Stmt := topS 52
theorem sc__law_net : FnScope ["_law_script", "_law_most", "_law_room", "_law_first", "_law_many", "_law_ties", "_law_k", "_law_cell", "_law_one", "_law_tie", "_law_turn", "_law_other", "_law_at"] ["_law_script", "_law_most", "_law_room"] (defScope s__law_net) := ⟨rfl, rfl, rfl, by decide +kernel, rfl, by decide +kernel, by decide +kernel⟩
abbrev s__law_bad_tie : Stmt := topS 53
theorem sc__law_bad_tie : FnScope ["_law_cell", "_law_many", "_law_far", "_law_some"] ["_law_cell", "_law_many"] (defScope s__law_bad_tie) := ⟨rfl, rfl, rfl, by decide +kernel, rfl, by decide +kernel, by decide +kernel⟩
abbrev s__law_spoilt : Stmt := topS 54
theorem sc__law_spoilt : FnScope ["_law_many", "_law_ties", "_law_way", "_law_cell", "_law_some", "_law_at"] ["_law_many", "_law_ties", "_law_way", "_law_cell"] (defScope s__law_spoilt) := ⟨rfl, rfl, rfl, by decide +kernel, rfl, by decide +kernel, by decide +kernel⟩
abbrev s__law_asked : Stmt := topS 55
theorem sc__law_asked : FnScope ["_law_which", "_law_many", "_law_ties", "_law_odd"] ["_law_which", "_law_many", "_law_ties", "_law_odd"] (defScope s__law_asked) := ⟨rfl, rfl, rfl, by decide +kernel, rfl, by decide +kernel, by decide +kernel⟩
abbrev s__law_refused : Stmt := topS 56
theorem sc__law_refused : FnScope ["_law_which", "_law_many", "_law_ties", "_law_odd", "e", "_law_other"] ["_law_which", "_law_many", "_law_ties", "_law_odd"] (defScope s__law_refused) := ⟨rfl, rfl, rfl, by decide +kernel, rfl, by decide +kernel, by decide +kernel⟩
abbrev s_law : Stmt := topS 57
theorem sc_law : FnScope ["_law_script", "_law_many", "_law_ties", "_law_cell", "_law_bad", "_law_kept", "_law_odd", "_law_which"] ["_law_script"] (defScope s_law) := ⟨rfl, rfl, rfl, by decide +kernel, rfl, by decide +kernel, by decide +kernel⟩
structure Tx (K : PySem.W.Frag) (mg : Str → Option Value) where
  cl : XC → Addr
  n_ValueError : mg "ValueError" = none
  n_all : mg "all" = none
  n_bool : mg "bool" = none
  n_int : mg "int" = none
  n_isinstance : mg "isinstance" = none
  n_len : mg "len" = none
  n_list : mg "list" = none
  n_max : mg "max" = none
  n_min : mg "min" = none
  n_range : mg "range" = none
  n_set : mg "set" = none
  n_sorted : mg "sorted" = none
  n_str : mg "str" = none
  n_tuple : mg "tuple" = none
  t_MOST_PLACES : Tok
  c_MOST_PLACES : mg "MOST_PLACES" = some (.int 7 t_MOST_PLACES)
  t_MOST_TIES : Tok
  c_MOST_TIES : mg "MOST_TIES" = some (.int 16 t_MOST_TIES)
  C_NetError : Addr
  gC_NetError : mg "NetError" = some (.ref C_NetError)
  x_NetError : PySem.W.excIn K C_NetError [.type "ValueError", .type "Exception", .type "BaseException", .type "object"] "ValueError.__new__" = true
  kC_NetError : PySem.W.keepIn K (.ref C_NetError) = true
  bC_NetError : PySem.W.subIn K (.ref C_NetError) (.type "BaseException") = some true
  tC_NetError : PySem.W.typeIn K (.ref C_NetError) = some (.type "type")
  C_BadNet : Addr
  gC_BadNet : mg "BadNet" = some (.ref C_BadNet)
  x_BadNet : PySem.W.excIn K C_BadNet [.type "ValueError", .type "Exception", .type "BaseException", .type "object"] "ValueError.__new__" = true
  kC_BadNet : PySem.W.keepIn K (.ref C_BadNet) = true
  bC_BadNet : PySem.W.subIn K (.ref C_BadNet) (.type "BaseException") = some true
  tC_BadNet : PySem.W.typeIn K (.ref C_BadNet) = some (.type "type")
  C_BadTie : Addr
  gC_BadTie : mg "BadTie" = some (.ref C_BadTie)
  x_BadTie : PySem.W.excIn K C_BadTie [.type "ValueError", .type "Exception", .type "BaseException", .type "object"] "ValueError.__new__" = true
  kC_BadTie : PySem.W.keepIn K (.ref C_BadTie) = true
  bC_BadTie : PySem.W.subIn K (.ref C_BadTie) (.type "BaseException") = some true
  tC_BadTie : PySem.W.typeIn K (.ref C_BadTie) = some (.type "type")
  C_SelfTie : Addr
  gC_SelfTie : mg "SelfTie" = some (.ref C_SelfTie)
  x_SelfTie : PySem.W.excIn K C_SelfTie [.type "ValueError", .type "Exception", .type "BaseException", .type "object"] "ValueError.__new__" = true
  kC_SelfTie : PySem.W.keepIn K (.ref C_SelfTie) = true
  bC_SelfTie : PySem.W.subIn K (.ref C_SelfTie) (.type "BaseException") = some true
  tC_SelfTie : PySem.W.typeIn K (.ref C_SelfTie) = some (.type "type")
  C_BadHanging : Addr
  gC_BadHanging : mg "BadHanging" = some (.ref C_BadHanging)
  x_BadHanging : PySem.W.excIn K C_BadHanging [.type "ValueError", .type "Exception", .type "BaseException", .type "object"] "ValueError.__new__" = true
  kC_BadHanging : PySem.W.keepIn K (.ref C_BadHanging) = true
  bC_BadHanging : PySem.W.subIn K (.ref C_BadHanging) (.type "BaseException") = some true
  tC_BadHanging : PySem.W.typeIn K (.ref C_BadHanging) = some (.type "type")
  C_BadNumber : Addr
  gC_BadNumber : mg "BadNumber" = some (.ref C_BadNumber)
  x_BadNumber : PySem.W.excIn K C_BadNumber [.type "ValueError", .type "Exception", .type "BaseException", .type "object"] "ValueError.__new__" = true
  kC_BadNumber : PySem.W.keepIn K (.ref C_BadNumber) = true
  bC_BadNumber : PySem.W.subIn K (.ref C_BadNumber) (.type "BaseException") = some true
  tC_BadNumber : PySem.W.typeIn K (.ref C_BadNumber) = some (.type "type")
  C_TooMany : Addr
  gC_TooMany : mg "TooMany" = some (.ref C_TooMany)
  x_TooMany : PySem.W.excIn K C_TooMany [.type "ValueError", .type "Exception", .type "BaseException", .type "object"] "ValueError.__new__" = true
  kC_TooMany : PySem.W.keepIn K (.ref C_TooMany) = true
  bC_TooMany : PySem.W.subIn K (.ref C_TooMany) (.type "BaseException") = some true
  tC_TooMany : PySem.W.typeIn K (.ref C_TooMany) = some (.type "type")
  en_class : PySem.W.specialIn K (.builtin "object.__class__") "__get__" = some (some (.builtin "getset_descriptor.__get__"))
  et_class : PySem.W.takesIn K (.builtin "object.__class__") = some true
  hC_NetError : PySem.W.hasDictIn K C_NetError = true
  hC_BadNet : PySem.W.hasDictIn K C_BadNet = true
  eg_BadNet : PySem.W.findIn K (.ref C_BadNet) "__getattribute__" = some (some (.builtin "BaseException.__getattribute__"))
  ek_BadNet : PySem.W.findIn K (.ref C_BadNet) "__getattr__" = some none
  ea_BadNet : PySem.W.findIn K (.ref C_BadNet) "__class__" = some (some (.builtin "object.__class__"))
  em_BadNet : PySem.W.mroIn K C_BadNet (.type "object") = some true
  sv_BadNet : PySem.W.subIn K (.ref C_BadNet) (.type "ValueError") = some true
  sb_BadNet_NetError : PySem.W.subIn K (.ref C_BadNet) (.ref C_NetError) = some true
  sb_BadNet_BadNet : PySem.W.subIn K (.ref C_BadNet) (.ref C_BadNet) = some true
  sb_BadNet_BadTie : PySem.W.subIn K (.ref C_BadNet) (.ref C_BadTie) = some false
  sb_BadNet_SelfTie : PySem.W.subIn K (.ref C_BadNet) (.ref C_SelfTie) = some false
  sb_BadNet_BadHanging : PySem.W.subIn K (.ref C_BadNet) (.ref C_BadHanging) = some false
  sb_BadNet_BadNumber : PySem.W.subIn K (.ref C_BadNet) (.ref C_BadNumber) = some false
  sb_BadNet_TooMany : PySem.W.subIn K (.ref C_BadNet) (.ref C_TooMany) = some false
  hC_BadTie : PySem.W.hasDictIn K C_BadTie = true
  eg_BadTie : PySem.W.findIn K (.ref C_BadTie) "__getattribute__" = some (some (.builtin "BaseException.__getattribute__"))
  ek_BadTie : PySem.W.findIn K (.ref C_BadTie) "__getattr__" = some none
  ea_BadTie : PySem.W.findIn K (.ref C_BadTie) "__class__" = some (some (.builtin "object.__class__"))
  em_BadTie : PySem.W.mroIn K C_BadTie (.type "object") = some true
  sv_BadTie : PySem.W.subIn K (.ref C_BadTie) (.type "ValueError") = some true
  sb_BadTie_NetError : PySem.W.subIn K (.ref C_BadTie) (.ref C_NetError) = some true
  sb_BadTie_BadNet : PySem.W.subIn K (.ref C_BadTie) (.ref C_BadNet) = some false
  sb_BadTie_BadTie : PySem.W.subIn K (.ref C_BadTie) (.ref C_BadTie) = some true
  sb_BadTie_SelfTie : PySem.W.subIn K (.ref C_BadTie) (.ref C_SelfTie) = some false
  sb_BadTie_BadHanging : PySem.W.subIn K (.ref C_BadTie) (.ref C_BadHanging) = some false
  sb_BadTie_BadNumber : PySem.W.subIn K (.ref C_BadTie) (.ref C_BadNumber) = some false
  sb_BadTie_TooMany : PySem.W.subIn K (.ref C_BadTie) (.ref C_TooMany) = some false
  hC_SelfTie : PySem.W.hasDictIn K C_SelfTie = true
  eg_SelfTie : PySem.W.findIn K (.ref C_SelfTie) "__getattribute__" = some (some (.builtin "BaseException.__getattribute__"))
  ek_SelfTie : PySem.W.findIn K (.ref C_SelfTie) "__getattr__" = some none
  ea_SelfTie : PySem.W.findIn K (.ref C_SelfTie) "__class__" = some (some (.builtin "object.__class__"))
  em_SelfTie : PySem.W.mroIn K C_SelfTie (.type "object") = some true
  sv_SelfTie : PySem.W.subIn K (.ref C_SelfTie) (.type "ValueError") = some true
  sb_SelfTie_NetError : PySem.W.subIn K (.ref C_SelfTie) (.ref C_NetError) = some true
  sb_SelfTie_BadNet : PySem.W.subIn K (.ref C_SelfTie) (.ref C_BadNet) = some false
  sb_SelfTie_BadTie : PySem.W.subIn K (.ref C_SelfTie) (.ref C_BadTie) = some false
  sb_SelfTie_SelfTie : PySem.W.subIn K (.ref C_SelfTie) (.ref C_SelfTie) = some true
  sb_SelfTie_BadHanging : PySem.W.subIn K (.ref C_SelfTie) (.ref C_BadHanging) = some false
  sb_SelfTie_BadNumber : PySem.W.subIn K (.ref C_SelfTie) (.ref C_BadNumber) = some false
  sb_SelfTie_TooMany : PySem.W.subIn K (.ref C_SelfTie) (.ref C_TooMany) = some false
  hC_BadHanging : PySem.W.hasDictIn K C_BadHanging = true
  eg_BadHanging : PySem.W.findIn K (.ref C_BadHanging) "__getattribute__" = some (some (.builtin "BaseException.__getattribute__"))
  ek_BadHanging : PySem.W.findIn K (.ref C_BadHanging) "__getattr__" = some none
  ea_BadHanging : PySem.W.findIn K (.ref C_BadHanging) "__class__" = some (some (.builtin "object.__class__"))
  em_BadHanging : PySem.W.mroIn K C_BadHanging (.type "object") = some true
  sv_BadHanging : PySem.W.subIn K (.ref C_BadHanging) (.type "ValueError") = some true
  sb_BadHanging_NetError : PySem.W.subIn K (.ref C_BadHanging) (.ref C_NetError) = some true
  sb_BadHanging_BadNet : PySem.W.subIn K (.ref C_BadHanging) (.ref C_BadNet) = some false
  sb_BadHanging_BadTie : PySem.W.subIn K (.ref C_BadHanging) (.ref C_BadTie) = some false
  sb_BadHanging_SelfTie : PySem.W.subIn K (.ref C_BadHanging) (.ref C_SelfTie) = some false
  sb_BadHanging_BadHanging : PySem.W.subIn K (.ref C_BadHanging) (.ref C_BadHanging) = some true
  sb_BadHanging_BadNumber : PySem.W.subIn K (.ref C_BadHanging) (.ref C_BadNumber) = some false
  sb_BadHanging_TooMany : PySem.W.subIn K (.ref C_BadHanging) (.ref C_TooMany) = some false
  hC_BadNumber : PySem.W.hasDictIn K C_BadNumber = true
  eg_BadNumber : PySem.W.findIn K (.ref C_BadNumber) "__getattribute__" = some (some (.builtin "BaseException.__getattribute__"))
  ek_BadNumber : PySem.W.findIn K (.ref C_BadNumber) "__getattr__" = some none
  ea_BadNumber : PySem.W.findIn K (.ref C_BadNumber) "__class__" = some (some (.builtin "object.__class__"))
  em_BadNumber : PySem.W.mroIn K C_BadNumber (.type "object") = some true
  sv_BadNumber : PySem.W.subIn K (.ref C_BadNumber) (.type "ValueError") = some true
  sb_BadNumber_NetError : PySem.W.subIn K (.ref C_BadNumber) (.ref C_NetError) = some true
  sb_BadNumber_BadNet : PySem.W.subIn K (.ref C_BadNumber) (.ref C_BadNet) = some false
  sb_BadNumber_BadTie : PySem.W.subIn K (.ref C_BadNumber) (.ref C_BadTie) = some false
  sb_BadNumber_SelfTie : PySem.W.subIn K (.ref C_BadNumber) (.ref C_SelfTie) = some false
  sb_BadNumber_BadHanging : PySem.W.subIn K (.ref C_BadNumber) (.ref C_BadHanging) = some false
  sb_BadNumber_BadNumber : PySem.W.subIn K (.ref C_BadNumber) (.ref C_BadNumber) = some true
  sb_BadNumber_TooMany : PySem.W.subIn K (.ref C_BadNumber) (.ref C_TooMany) = some false
  hC_TooMany : PySem.W.hasDictIn K C_TooMany = true
  eg_TooMany : PySem.W.findIn K (.ref C_TooMany) "__getattribute__" = some (some (.builtin "BaseException.__getattribute__"))
  ek_TooMany : PySem.W.findIn K (.ref C_TooMany) "__getattr__" = some none
  ea_TooMany : PySem.W.findIn K (.ref C_TooMany) "__class__" = some (some (.builtin "object.__class__"))
  em_TooMany : PySem.W.mroIn K C_TooMany (.type "object") = some true
  sv_TooMany : PySem.W.subIn K (.ref C_TooMany) (.type "ValueError") = some true
  sb_TooMany_NetError : PySem.W.subIn K (.ref C_TooMany) (.ref C_NetError) = some true
  sb_TooMany_BadNet : PySem.W.subIn K (.ref C_TooMany) (.ref C_BadNet) = some false
  sb_TooMany_BadTie : PySem.W.subIn K (.ref C_TooMany) (.ref C_BadTie) = some false
  sb_TooMany_SelfTie : PySem.W.subIn K (.ref C_TooMany) (.ref C_SelfTie) = some false
  sb_TooMany_BadHanging : PySem.W.subIn K (.ref C_TooMany) (.ref C_BadHanging) = some false
  sb_TooMany_BadNumber : PySem.W.subIn K (.ref C_TooMany) (.ref C_BadNumber) = some false
  sb_TooMany_TooMany : PySem.W.subIn K (.ref C_TooMany) (.ref C_TooMany) = some true
  cl_BadNet : cl .net = C_BadNet
  cl_BadTie : cl .tie = C_BadTie
  cl_SelfTie : cl .self = C_SelfTie
  cl_BadHanging : cl .hang = C_BadHanging
  cl_BadNumber : cl .numb = C_BadNumber
  cl_TooMany : cl .many = C_TooMany
  a_is_below : Addr
  d_is_below : FuncData
  F_is_below : Fun K "is_below" "is_below" s_is_below a_is_below d_is_below
  g_is_below : mg "is_below" = some (.ref a_is_below)
  b_is_below : Binds K d_is_below ["thing", "bound"] []
  a_is_tie : Addr
  d_is_tie : FuncData
  F_is_tie : Fun K "is_tie" "is_tie" s_is_tie a_is_tie d_is_tie
  g_is_tie : mg "is_tie" = some (.ref a_is_tie)
  b_is_tie : Binds K d_is_tie ["thing", "many"] []
  a_need_net : Addr
  d_need_net : FuncData
  F_need_net : Fun K "need_net" "need_net" s_need_net a_need_net d_need_net
  g_need_net : mg "need_net" = some (.ref a_need_net)
  b_need_net : Binds K d_need_net ["many", "ties"] []
  a_need_tie : Addr
  d_need_tie : FuncData
  F_need_tie : Fun K "need_tie" "need_tie" s_need_tie a_need_tie d_need_tie
  g_need_tie : mg "need_tie" = some (.ref a_need_tie)
  b_need_tie : Binds K d_need_tie ["ties", "tie"] []
  a_marks_of : Addr
  d_marks_of : FuncData
  F_marks_of : Fun K "marks_of" "marks_of" s_marks_of a_marks_of d_marks_of
  g_marks_of : mg "marks_of" = some (.ref a_marks_of)
  b_marks_of : Binds K d_marks_of ["many", "ties"] []
  a_parts_of : Addr
  d_parts_of : FuncData
  F_parts_of : Fun K "parts_of" "parts_of" s_parts_of a_parts_of d_parts_of
  g_parts_of : mg "parts_of" = some (.ref a_parts_of)
  b_parts_of : Binds K d_parts_of ["many", "ties"] []
  a_hangs : Addr
  d_hangs : FuncData
  F_hangs : Fun K "hangs" "hangs" s_hangs a_hangs d_hangs
  g_hangs : mg "hangs" = some (.ref a_hangs)
  b_hangs : Binds K d_hangs ["many", "ties"] []
  a_net_without : Addr
  d_net_without : FuncData
  F_net_without : Fun K "net_without" "net_without" s_net_without a_net_without d_net_without
  g_net_without : mg "net_without" = some (.ref a_net_without)
  b_net_without : Binds K d_net_without ["many", "ties", "tie"] []
  a_moved_place : Addr
  d_moved_place : FuncData
  F_moved_place : Fun K "moved_place" "moved_place" s_moved_place a_moved_place d_moved_place
  g_moved_place : mg "moved_place" = some (.ref a_moved_place)
  b_moved_place : Binds K d_moved_place ["place", "low", "high"] []
  a_net_together : Addr
  d_net_together : FuncData
  F_net_together : Fun K "net_together" "net_together" s_net_together a_net_together d_net_together
  g_net_together : mg "net_together" = some (.ref a_net_together)
  b_net_together : Binds K d_net_together ["many", "ties", "tie"] []
  a_first_row : Addr
  d_first_row : FuncData
  F_first_row : Fun K "first_row" "first_row" s_first_row a_first_row d_first_row
  g_first_row : mg "first_row" = some (.ref a_first_row)
  b_first_row : Binds K d_first_row ["rows", "at"] []
  a_swept : Addr
  d_swept : FuncData
  F_swept : Fun K "swept" "swept" s_swept a_swept d_swept
  g_swept : mg "swept" = some (.ref a_swept)
  b_swept : Binds K d_swept ["rows", "at", "last"] []
  a_worth_of : Addr
  d_worth_of : FuncData
  F_worth_of : Fun K "worth_of" "worth_of" s_worth_of a_worth_of d_worth_of
  g_worth_of : mg "worth_of" = some (.ref a_worth_of)
  b_worth_of : Binds K d_worth_of ["rows"] []
  a_between : Addr
  d_between : FuncData
  F_between : Fun K "between" "between" s_between a_between d_between
  g_between : mg "between" = some (.ref a_between)
  b_between : Binds K d_between ["ties", "one", "other"] []
  a_row_at : Addr
  d_row_at : FuncData
  F_row_at : Fun K "row_at" "row_at" s_row_at a_row_at d_row_at
  g_row_at : mg "row_at" = some (.ref a_row_at)
  b_row_at : Binds K d_row_at ["many", "ties", "place"] []
  a_table_of : Addr
  d_table_of : FuncData
  F_table_of : Fun K "table_of" "table_of" s_table_of a_table_of d_table_of
  g_table_of : mg "table_of" = some (.ref a_table_of)
  b_table_of : Binds K d_table_of ["many", "ties"] []
  a_tally : Addr
  d_tally : FuncData
  F_tally : Fun K "tally" "tally" s_tally a_tally d_tally
  g_tally : mg "tally" = some (.ref a_tally)
  b_tally : Binds K d_tally ["many", "ties"] []
  a_is_rising : Addr
  d_is_rising : FuncData
  F_is_rising : Fun K "is_rising" "is_rising" s_is_rising a_is_rising d_is_rising
  g_is_rising : mg "is_rising" = some (.ref a_is_rising)
  b_is_rising : Binds K d_is_rising ["some", "bound"] []
  a_is_hanging : Addr
  d_is_hanging : FuncData
  F_is_hanging : Fun K "is_hanging" "is_hanging" s_is_hanging a_is_hanging d_is_hanging
  g_is_hanging : mg "is_hanging" = some (.ref a_is_hanging)
  b_is_hanging : Binds K d_is_hanging ["many", "ties", "some"] []
  a_is_open : Addr
  d_is_open : FuncData
  F_is_open : Fun K "is_open" "is_open" s_is_open a_is_open d_is_open
  g_is_open : mg "is_open" = some (.ref a_is_open)
  b_is_open : Binds K d_is_open ["many", "ties", "some", "tie"] []
  a_led_on : Addr
  d_led_on : FuncData
  F_led_on : Fun K "led_on" "led_on" s_led_on a_led_on d_led_on
  g_led_on : mg "led_on" = some (.ref a_led_on)
  b_led_on : Binds K d_led_on ["many", "ties", "some", "tie"] []
  a_all_hangings : Addr
  d_all_hangings : FuncData
  F_all_hangings : Fun K "all_hangings" "all_hangings" s_all_hangings a_all_hangings d_all_hangings
  g_all_hangings : mg "all_hangings" = some (.ref a_all_hangings)
  b_all_hangings : Binds K d_all_hangings ["many", "ties", "most"] []
  a_goings_on : Addr
  d_goings_on : FuncData
  F_goings_on : Fun K "goings_on" "goings_on" s_goings_on a_goings_on d_goings_on
  g_goings_on : mg "goings_on" = some (.ref a_goings_on)
  b_goings_on : Binds K d_goings_on ["many", "ties", "some", "tie"] []
  a_with_tie : Addr
  d_with_tie : FuncData
  F_with_tie : Fun K "with_tie" "with_tie" s_with_tie a_with_tie d_with_tie
  g_with_tie : mg "with_tie" = some (.ref a_with_tie)
  b_with_tie : Binds K d_with_tie ["many", "ties", "some", "tie"] []
  a_hanging_of : Addr
  d_hanging_of : FuncData
  F_hanging_of : Fun K "hanging_of" "hanging_of" s_hanging_of a_hanging_of d_hanging_of
  g_hanging_of : mg "hanging_of" = some (.ref a_hanging_of)
  b_hanging_of : Binds K d_hanging_of ["many", "ties", "number"] []
  a_number_of : Addr
  d_number_of : FuncData
  F_number_of : Fun K "number_of" "number_of" s_number_of a_number_of d_number_of
  g_number_of : mg "number_of" = some (.ref a_number_of)
  b_number_of : Binds K d_number_of ["many", "ties", "some"] []
  a_share_of : Addr
  d_share_of : FuncData
  F_share_of : Fun K "share_of" "share_of" s_share_of a_share_of d_share_of
  g_share_of : mg "share_of" = some (.ref a_share_of)
  b_share_of : Binds K d_share_of ["many", "ties", "tie"] []
  a_standing : Addr
  d_standing : FuncData
  F_standing : Fun K "standing" "standing" s_standing a_standing d_standing
  g_standing : mg "standing" = some (.ref a_standing)
  b_standing : Binds K d_standing ["many", "ties"] []
  a_need_hanging : Addr
  d_need_hanging : FuncData
  F_need_hanging : Fun K "need_hanging" "need_hanging" s_need_hanging a_need_hanging d_need_hanging
  g_need_hanging : mg "need_hanging" = some (.ref a_need_hanging)
  b_need_hanging : Binds K d_need_hanging ["many", "ties", "some"] []
  a_nearer : Addr
  d_nearer : FuncData
  F_nearer : Fun K "nearer" "nearer" s_nearer a_nearer d_nearer
  g_nearer : mg "nearer" = some (.ref a_nearer)
  b_nearer : Binds K d_nearer ["many", "ties", "now", "goal"] []
  a_exchanges : Addr
  d_exchanges : FuncData
  F_exchanges : Fun K "exchanges" "exchanges" s_exchanges a_exchanges d_exchanges
  g_exchanges : mg "exchanges" = some (.ref a_exchanges)
  b_exchanges : Binds K d_exchanges ["many", "ties", "one", "other"] []
  a__law_cell_at : Addr
  d__law_cell_at : FuncData
  F__law_cell_at : Fun K "_law_cell_at" "_law_cell_at" s__law_cell_at a__law_cell_at d__law_cell_at
  g__law_cell_at : mg "_law_cell_at" = some (.ref a__law_cell_at)
  b__law_cell_at : Binds K d__law_cell_at ["_law_script", "_law_k"] []
  a__law_mixed : Addr
  d__law_mixed : FuncData
  F__law_mixed : Fun K "_law_mixed" "_law_mixed" s__law_mixed a__law_mixed d__law_mixed
  g__law_mixed : mg "_law_mixed" = some (.ref a__law_mixed)
  b__law_mixed : Binds K d__law_mixed ["_law_script", "_law_k"] []
  a__law_tree : Addr
  d__law_tree : FuncData
  F__law_tree : Fun K "_law_tree" "_law_tree" s__law_tree a__law_tree d__law_tree
  g__law_tree : mg "_law_tree" = some (.ref a__law_tree)
  b__law_tree : Binds K d__law_tree ["_law_script", "_law_many"] []
  a__law_net : Addr
  d__law_net : FuncData
  F__law_net : Fun K "_law_net" "_law_net" s__law_net a__law_net d__law_net
  g__law_net : mg "_law_net" = some (.ref a__law_net)
  b__law_net : Binds K d__law_net ["_law_script", "_law_most", "_law_room"] []
  a__law_bad_tie : Addr
  d__law_bad_tie : FuncData
  F__law_bad_tie : Fun K "_law_bad_tie" "_law_bad_tie" s__law_bad_tie a__law_bad_tie d__law_bad_tie
  g__law_bad_tie : mg "_law_bad_tie" = some (.ref a__law_bad_tie)
  b__law_bad_tie : Binds K d__law_bad_tie ["_law_cell", "_law_many"] []
  a__law_spoilt : Addr
  d__law_spoilt : FuncData
  F__law_spoilt : Fun K "_law_spoilt" "_law_spoilt" s__law_spoilt a__law_spoilt d__law_spoilt
  g__law_spoilt : mg "_law_spoilt" = some (.ref a__law_spoilt)
  b__law_spoilt : Binds K d__law_spoilt ["_law_many", "_law_ties", "_law_way", "_law_cell"] []
  a__law_asked : Addr
  d__law_asked : FuncData
  F__law_asked : Fun K "_law_asked" "_law_asked" s__law_asked a__law_asked d__law_asked
  g__law_asked : mg "_law_asked" = some (.ref a__law_asked)
  b__law_asked : Binds K d__law_asked ["_law_which", "_law_many", "_law_ties", "_law_odd"] []
  a__law_refused : Addr
  d__law_refused : FuncData
  F__law_refused : Fun K "_law_refused" "_law_refused" s__law_refused a__law_refused d__law_refused
  g__law_refused : mg "_law_refused" = some (.ref a__law_refused)
  b__law_refused : Binds K d__law_refused ["_law_which", "_law_many", "_law_ties", "_law_odd"] []
  a_law : Addr
  d_law : FuncData
  F_law : Fun K "law" "law" s_law a_law d_law
  g_law : mg "law" = some (.ref a_law)
  b_law : Binds K d_law ["_law_script"] []

theorem six_ok {K : PySem.W.Frag} {mg : Str → Option Value} (T : Tx K mg) : DL.SixOk K T.cl T.C_NetError where
  ex := fun c => match c with
    | .net => by rw [T.cl_BadNet]; exact ⟨T.eg_BadNet, T.ek_BadNet, T.bC_BadNet, T.hC_BadNet, T.ea_BadNet, T.en_class, T.et_class, T.em_BadNet⟩
    | .tie => by rw [T.cl_BadTie]; exact ⟨T.eg_BadTie, T.ek_BadTie, T.bC_BadTie, T.hC_BadTie, T.ea_BadTie, T.en_class, T.et_class, T.em_BadTie⟩
    | .self => by rw [T.cl_SelfTie]; exact ⟨T.eg_SelfTie, T.ek_SelfTie, T.bC_SelfTie, T.hC_SelfTie, T.ea_SelfTie, T.en_class, T.et_class, T.em_SelfTie⟩
    | .hang => by rw [T.cl_BadHanging]; exact ⟨T.eg_BadHanging, T.ek_BadHanging, T.bC_BadHanging, T.hC_BadHanging, T.ea_BadHanging, T.en_class, T.et_class, T.em_BadHanging⟩
    | .numb => by rw [T.cl_BadNumber]; exact ⟨T.eg_BadNumber, T.ek_BadNumber, T.bC_BadNumber, T.hC_BadNumber, T.ea_BadNumber, T.en_class, T.et_class, T.em_BadNumber⟩
    | .many => by rw [T.cl_TooMany]; exact ⟨T.eg_TooMany, T.ek_TooMany, T.bC_TooMany, T.hC_TooMany, T.ea_TooMany, T.en_class, T.et_class, T.em_TooMany⟩
  one := fun c c2 => match c, c2 with
    | .net, .net => by rw [T.cl_BadNet]; exact DL.kit_sub T.hC_BadNet T.tC_BadNet T.sb_BadNet_BadNet fun _ => rfl
    | .net, .tie => by rw [T.cl_BadNet, T.cl_BadTie]; exact DL.kit_sub T.hC_BadTie T.tC_BadTie T.sb_BadNet_BadTie fun q => by { have h := T.sb_BadNet_BadTie; rw [q, T.sb_BadTie_BadTie] at h; cases h }
    | .net, .self => by rw [T.cl_BadNet, T.cl_SelfTie]; exact DL.kit_sub T.hC_SelfTie T.tC_SelfTie T.sb_BadNet_SelfTie fun q => by { have h := T.sb_BadNet_SelfTie; rw [q, T.sb_SelfTie_SelfTie] at h; cases h }
    | .net, .hang => by rw [T.cl_BadNet, T.cl_BadHanging]; exact DL.kit_sub T.hC_BadHanging T.tC_BadHanging T.sb_BadNet_BadHanging fun q => by { have h := T.sb_BadNet_BadHanging; rw [q, T.sb_BadHanging_BadHanging] at h; cases h }
    | .net, .numb => by rw [T.cl_BadNet, T.cl_BadNumber]; exact DL.kit_sub T.hC_BadNumber T.tC_BadNumber T.sb_BadNet_BadNumber fun q => by { have h := T.sb_BadNet_BadNumber; rw [q, T.sb_BadNumber_BadNumber] at h; cases h }
    | .net, .many => by rw [T.cl_BadNet, T.cl_TooMany]; exact DL.kit_sub T.hC_TooMany T.tC_TooMany T.sb_BadNet_TooMany fun q => by { have h := T.sb_BadNet_TooMany; rw [q, T.sb_TooMany_TooMany] at h; cases h }
    | .tie, .net => by rw [T.cl_BadTie, T.cl_BadNet]; exact DL.kit_sub T.hC_BadNet T.tC_BadNet T.sb_BadTie_BadNet fun q => by { have h := T.sb_BadTie_BadNet; rw [q, T.sb_BadNet_BadNet] at h; cases h }
    | .tie, .tie => by rw [T.cl_BadTie]; exact DL.kit_sub T.hC_BadTie T.tC_BadTie T.sb_BadTie_BadTie fun _ => rfl
    | .tie, .self => by rw [T.cl_BadTie, T.cl_SelfTie]; exact DL.kit_sub T.hC_SelfTie T.tC_SelfTie T.sb_BadTie_SelfTie fun q => by { have h := T.sb_BadTie_SelfTie; rw [q, T.sb_SelfTie_SelfTie] at h; cases h }
    | .tie, .hang => by rw [T.cl_BadTie, T.cl_BadHanging]; exact DL.kit_sub T.hC_BadHanging T.tC_BadHanging T.sb_BadTie_BadHanging fun q => by { have h := T.sb_BadTie_BadHanging; rw [q, T.sb_BadHanging_BadHanging] at h; cases h }
    | .tie, .numb => by rw [T.cl_BadTie, T.cl_BadNumber]; exact DL.kit_sub T.hC_BadNumber T.tC_BadNumber T.sb_BadTie_BadNumber fun q => by { have h := T.sb_BadTie_BadNumber; rw [q, T.sb_BadNumber_BadNumber] at h; cases h }
    | .tie, .many => by rw [T.cl_BadTie, T.cl_TooMany]; exact DL.kit_sub T.hC_TooMany T.tC_TooMany T.sb_BadTie_TooMany fun q => by { have h := T.sb_BadTie_TooMany; rw [q, T.sb_TooMany_TooMany] at h; cases h }
    | .self, .net => by rw [T.cl_SelfTie, T.cl_BadNet]; exact DL.kit_sub T.hC_BadNet T.tC_BadNet T.sb_SelfTie_BadNet fun q => by { have h := T.sb_SelfTie_BadNet; rw [q, T.sb_BadNet_BadNet] at h; cases h }
    | .self, .tie => by rw [T.cl_SelfTie, T.cl_BadTie]; exact DL.kit_sub T.hC_BadTie T.tC_BadTie T.sb_SelfTie_BadTie fun q => by { have h := T.sb_SelfTie_BadTie; rw [q, T.sb_BadTie_BadTie] at h; cases h }
    | .self, .self => by rw [T.cl_SelfTie]; exact DL.kit_sub T.hC_SelfTie T.tC_SelfTie T.sb_SelfTie_SelfTie fun _ => rfl
    | .self, .hang => by rw [T.cl_SelfTie, T.cl_BadHanging]; exact DL.kit_sub T.hC_BadHanging T.tC_BadHanging T.sb_SelfTie_BadHanging fun q => by { have h := T.sb_SelfTie_BadHanging; rw [q, T.sb_BadHanging_BadHanging] at h; cases h }
    | .self, .numb => by rw [T.cl_SelfTie, T.cl_BadNumber]; exact DL.kit_sub T.hC_BadNumber T.tC_BadNumber T.sb_SelfTie_BadNumber fun q => by { have h := T.sb_SelfTie_BadNumber; rw [q, T.sb_BadNumber_BadNumber] at h; cases h }
    | .self, .many => by rw [T.cl_SelfTie, T.cl_TooMany]; exact DL.kit_sub T.hC_TooMany T.tC_TooMany T.sb_SelfTie_TooMany fun q => by { have h := T.sb_SelfTie_TooMany; rw [q, T.sb_TooMany_TooMany] at h; cases h }
    | .hang, .net => by rw [T.cl_BadHanging, T.cl_BadNet]; exact DL.kit_sub T.hC_BadNet T.tC_BadNet T.sb_BadHanging_BadNet fun q => by { have h := T.sb_BadHanging_BadNet; rw [q, T.sb_BadNet_BadNet] at h; cases h }
    | .hang, .tie => by rw [T.cl_BadHanging, T.cl_BadTie]; exact DL.kit_sub T.hC_BadTie T.tC_BadTie T.sb_BadHanging_BadTie fun q => by { have h := T.sb_BadHanging_BadTie; rw [q, T.sb_BadTie_BadTie] at h; cases h }
    | .hang, .self => by rw [T.cl_BadHanging, T.cl_SelfTie]; exact DL.kit_sub T.hC_SelfTie T.tC_SelfTie T.sb_BadHanging_SelfTie fun q => by { have h := T.sb_BadHanging_SelfTie; rw [q, T.sb_SelfTie_SelfTie] at h; cases h }
    | .hang, .hang => by rw [T.cl_BadHanging]; exact DL.kit_sub T.hC_BadHanging T.tC_BadHanging T.sb_BadHanging_BadHanging fun _ => rfl
    | .hang, .numb => by rw [T.cl_BadHanging, T.cl_BadNumber]; exact DL.kit_sub T.hC_BadNumber T.tC_BadNumber T.sb_BadHanging_BadNumber fun q => by { have h := T.sb_BadHanging_BadNumber; rw [q, T.sb_BadNumber_BadNumber] at h; cases h }
    | .hang, .many => by rw [T.cl_BadHanging, T.cl_TooMany]; exact DL.kit_sub T.hC_TooMany T.tC_TooMany T.sb_BadHanging_TooMany fun q => by { have h := T.sb_BadHanging_TooMany; rw [q, T.sb_TooMany_TooMany] at h; cases h }
    | .numb, .net => by rw [T.cl_BadNumber, T.cl_BadNet]; exact DL.kit_sub T.hC_BadNet T.tC_BadNet T.sb_BadNumber_BadNet fun q => by { have h := T.sb_BadNumber_BadNet; rw [q, T.sb_BadNet_BadNet] at h; cases h }
    | .numb, .tie => by rw [T.cl_BadNumber, T.cl_BadTie]; exact DL.kit_sub T.hC_BadTie T.tC_BadTie T.sb_BadNumber_BadTie fun q => by { have h := T.sb_BadNumber_BadTie; rw [q, T.sb_BadTie_BadTie] at h; cases h }
    | .numb, .self => by rw [T.cl_BadNumber, T.cl_SelfTie]; exact DL.kit_sub T.hC_SelfTie T.tC_SelfTie T.sb_BadNumber_SelfTie fun q => by { have h := T.sb_BadNumber_SelfTie; rw [q, T.sb_SelfTie_SelfTie] at h; cases h }
    | .numb, .hang => by rw [T.cl_BadNumber, T.cl_BadHanging]; exact DL.kit_sub T.hC_BadHanging T.tC_BadHanging T.sb_BadNumber_BadHanging fun q => by { have h := T.sb_BadNumber_BadHanging; rw [q, T.sb_BadHanging_BadHanging] at h; cases h }
    | .numb, .numb => by rw [T.cl_BadNumber]; exact DL.kit_sub T.hC_BadNumber T.tC_BadNumber T.sb_BadNumber_BadNumber fun _ => rfl
    | .numb, .many => by rw [T.cl_BadNumber, T.cl_TooMany]; exact DL.kit_sub T.hC_TooMany T.tC_TooMany T.sb_BadNumber_TooMany fun q => by { have h := T.sb_BadNumber_TooMany; rw [q, T.sb_TooMany_TooMany] at h; cases h }
    | .many, .net => by rw [T.cl_TooMany, T.cl_BadNet]; exact DL.kit_sub T.hC_BadNet T.tC_BadNet T.sb_TooMany_BadNet fun q => by { have h := T.sb_TooMany_BadNet; rw [q, T.sb_BadNet_BadNet] at h; cases h }
    | .many, .tie => by rw [T.cl_TooMany, T.cl_BadTie]; exact DL.kit_sub T.hC_BadTie T.tC_BadTie T.sb_TooMany_BadTie fun q => by { have h := T.sb_TooMany_BadTie; rw [q, T.sb_BadTie_BadTie] at h; cases h }
    | .many, .self => by rw [T.cl_TooMany, T.cl_SelfTie]; exact DL.kit_sub T.hC_SelfTie T.tC_SelfTie T.sb_TooMany_SelfTie fun q => by { have h := T.sb_TooMany_SelfTie; rw [q, T.sb_SelfTie_SelfTie] at h; cases h }
    | .many, .hang => by rw [T.cl_TooMany, T.cl_BadHanging]; exact DL.kit_sub T.hC_BadHanging T.tC_BadHanging T.sb_TooMany_BadHanging fun q => by { have h := T.sb_TooMany_BadHanging; rw [q, T.sb_BadHanging_BadHanging] at h; cases h }
    | .many, .numb => by rw [T.cl_TooMany, T.cl_BadNumber]; exact DL.kit_sub T.hC_BadNumber T.tC_BadNumber T.sb_TooMany_BadNumber fun q => by { have h := T.sb_TooMany_BadNumber; rw [q, T.sb_BadNumber_BadNumber] at h; cases h }
    | .many, .many => by rw [T.cl_TooMany]; exact DL.kit_sub T.hC_TooMany T.tC_TooMany T.sb_TooMany_TooMany fun _ => rfl
  val := fun c => match c with
    | .net => by rw [T.cl_BadNet]; exact DL.kit_base (by decide +kernel) T.sv_BadNet
    | .tie => by rw [T.cl_BadTie]; exact DL.kit_base (by decide +kernel) T.sv_BadTie
    | .self => by rw [T.cl_SelfTie]; exact DL.kit_base (by decide +kernel) T.sv_SelfTie
    | .hang => by rw [T.cl_BadHanging]; exact DL.kit_base (by decide +kernel) T.sv_BadHanging
    | .numb => by rw [T.cl_BadNumber]; exact DL.kit_base (by decide +kernel) T.sv_BadNumber
    | .many => by rw [T.cl_TooMany]; exact DL.kit_base (by decide +kernel) T.sv_TooMany
  net := fun c => match c with
    | .net => by rw [T.cl_BadNet]; exact PySem.W.exm_ref T.bC_NetError T.hC_NetError T.tC_NetError T.sb_BadNet_NetError
    | .tie => by rw [T.cl_BadTie]; exact PySem.W.exm_ref T.bC_NetError T.hC_NetError T.tC_NetError T.sb_BadTie_NetError
    | .self => by rw [T.cl_SelfTie]; exact PySem.W.exm_ref T.bC_NetError T.hC_NetError T.tC_NetError T.sb_SelfTie_NetError
    | .hang => by rw [T.cl_BadHanging]; exact PySem.W.exm_ref T.bC_NetError T.hC_NetError T.tC_NetError T.sb_BadHanging_NetError
    | .numb => by rw [T.cl_BadNumber]; exact PySem.W.exm_ref T.bC_NetError T.hC_NetError T.tC_NetError T.sb_BadNumber_NetError
    | .many => by rw [T.cl_TooMany]; exact PySem.W.exm_ref T.bC_NetError T.hC_NetError T.tC_NetError T.sb_TooMany_NetError

end Tr

namespace Tr
open PySem L2 DL TT
local macro_rules | `(tactic| walk_at "jv") => `(tactic| first
  | exact jv_c
  | exact jv_var rfl rfl
  | ((with_reducible refine' jv_add ?a ?b); (case a => walk_at "jv"); (case b => walk_at "jv"))
  | ((with_reducible refine' jv_sub ?a ?b); (case a => walk_at "jv"); (case b => walk_at "jv"))
  | ((with_reducible refine' jv_lt ?a ?b); (case a => walk_at "jv"); (case b => walk_at "jv"))
  | ((with_reducible refine' jv_le ?a ?b); (case a => walk_at "jv"); (case b => walk_at "jv"))
  | ((with_reducible refine' jv_gt ?a ?b); (case a => walk_at "jv"); (case b => walk_at "jv"))
  | ((with_reducible refine' jv_ge ?a ?b); (case a => walk_at "jv"); (case b => walk_at "jv"))
  | ((with_reducible refine' jv_eqI ?a ?b); (case a => walk_at "jv"); (case b => walk_at "jv"))
  | ((with_reducible refine' jv_neI ?a ?b); (case a => walk_at "jv"); (case b => walk_at "jv"))
  | ((with_reducible refine' jv_chain ?a ?b ?c); (case a => walk_at "jv"); (case b => walk_at "jv"); (case c => walk_at "jv"))
  | ((with_reducible refine' jv_not ?a); (case a => walk_at "jv"))
  | ((with_reducible refine' jv_len ?a); (case a => walk_at "js"))
  | ((with_reducible refine' jv_lenU ?a); (case a => walk_at "ju"))
  | ((with_reducible refine' jv_min2 ?a ?b); (case a => walk_at "jv"); (case b => walk_at "jv"))
  | ((with_reducible refine' jv_max2 ?a ?b); (case a => walk_at "jv"); (case b => walk_at "jv"))
  | assumption)
local macro_rules | `(tactic| walk_at "js") => `(tactic| first
  | exact js_var rfl
  | exact js_own rfl
  | exact Jd.lowS (js_var rfl)
  | assumption
  | exact Jd.nS (by assumption))
local macro_rules | `(tactic| walk_at "ju") => `(tactic| first
  | exact ju_var rfl
  | assumption)
local macro_rules | `(tactic| walk_at "jd") => `(tactic| first
  | exact jd_var rfl
  | exact Jd.low (jd_var rfl)
  | exact Jd.low (by assumption)
  | assumption
  | ((refine' Jd.int (Jd.eqV ?a ?b)); (case a => walk_at "jv"); (case b => first | rfl | (congr 1; omega)))
  | ((refine' Jd.bool ?a); (case a => walk_at "jv")))
local macro_rules | `(tactic| walk_at "jf") => `(tactic| first
  | exact jf_nil
  | ((with_reducible refine' jf_cons ?a ?b); (case a => walk_at "jd"); (case b => walk_at "jf")))
local macro_rules | `(tactic| walk_at "less") => `(tactic| first
  | exact LessI.nil
  | (refine LessI.keep ?_; walk_at "less")
  | (refine LessI.drop ?_; walk_at "less"))
local macro_rules | `(tactic| walk_at "loop") => `(tactic| (refine' run_loopW ?x ?y; (case x => exact rfl); (case y => walk_at "less")))

section
variable {P : Program} {w : World} {K : PySem.W.Frag} {mg : Str → Option Value} {base : Heap}

def isBelow (d : D) (b : Int) : Bool := match d with
  | .int i => decide (0 ≤ i) && decide (i < b)
  | _ => false
def preBelow (ds : List D) : Prop := ∃ d b, ds = [d, .int b] ∧ pln d = true
def postBelow (ds : List D) (out : Out) : Prop := ∃ d b, ds = [d, .int b] ∧ out = .val (.bool (isBelow d b))
theorem ok_is_below (T : Tx K mg) : FnOk P w K mg base (L2.CX P w) 1 T.a_is_below T.d_is_below ["thing", "bound"] (spD K T.cl [false, false] true preBelow postBelow) := by
  refine fnD T.F_is_below sc_is_below rfl fun cdv A outer s E M B H Q ds hr hp wf ho => ?_
  obtain ⟨d, b, rfl, hs⟩ := hp
  refine ⟨_, (pss_one (ps_ret (pe_and (pe_callB (isi_K K rfl) (by rfl) T.n_isinstance (by decide +kernel) (pa_cons (pv 0) (pa_cons (pe_bltn (v := .ty "int") (by rfl) T.n_int (by decide +kernel) rfl) pa_nil))) (pe_and (pe_not (pe_callB (isi_K K rfl) (by rfl) T.n_isinstance (by decide +kernel) (pa_cons (pv 0) (pa_cons (pe_bltn (v := .ty "bool") (by rfl) T.n_bool (by decide +kernel) rfl) pa_nil)))) (pe_one (pe_chain op_le op_lt pe_int (pv 0) (pv 1))))))), ?_⟩
  refine run_retV (v := .bl (isBelow d b)) (n := true) (d := .bool (isBelow d b)) ?_ rfl (ho _ ⟨d, b, rfl, rfl⟩)
  have hv : JD K (tVar 0) (argEnv [false, false] [d, .int b] 2) false d := jd_var rfl
  cases d with
  | int i => exact (jv_and (jv_isi hv kb_int_int) fun _ => jv_and (jv_not (jv_isi hv kb_int_bool)) fun _ => by walk_at "jv").eqV (by simp [isBelow])
  | bool i => exact (jv_and (jv_isi hv kb_bool_int) fun _ => jv_and (c := false) (jv_not (jv_isi hv kb_bool_bool)) (fun e => nomatch e)).eqV (by simp [isBelow])
  | dict kvs => exact (jv_and (c := false) (jv_isi hv kb_dict_int (pln_scr hs)) (fun e => nomatch e)).eqV (by simp [isBelow])
  | none => exact (jv_and (c := false) (jv_isi hv kb_none_int) (fun e => nomatch e)).eqV (by simp [isBelow])
  | str x => exact (jv_and (c := false) (jv_isi hv kb_str_int) (fun e => nomatch e)).eqV (by simp [isBelow])
  | list x => exact (jv_and (c := false) (jv_isi hv kb_list_int) (fun e => nomatch e)).eqV (by simp [isBelow])
  | tuple x => exact (jv_and (c := false) (jv_isi hv kb_tuple_int) (fun e => nomatch e)).eqV (by simp [isBelow])

end
end Tr

namespace Tr
open PySem L2 DL TT
local macro_rules | `(tactic| walk_at "jv") => `(tactic| first
  | exact jv_c
  | exact jv_var rfl rfl
  | ((with_reducible refine' jv_add ?a ?b); (case a => walk_at "jv"); (case b => walk_at "jv"))
  | ((with_reducible refine' jv_sub ?a ?b); (case a => walk_at "jv"); (case b => walk_at "jv"))
  | ((with_reducible refine' jv_lt ?a ?b); (case a => walk_at "jv"); (case b => walk_at "jv"))
  | ((with_reducible refine' jv_le ?a ?b); (case a => walk_at "jv"); (case b => walk_at "jv"))
  | ((with_reducible refine' jv_gt ?a ?b); (case a => walk_at "jv"); (case b => walk_at "jv"))
  | ((with_reducible refine' jv_ge ?a ?b); (case a => walk_at "jv"); (case b => walk_at "jv"))
  | ((with_reducible refine' jv_eqI ?a ?b); (case a => walk_at "jv"); (case b => walk_at "jv"))
  | ((with_reducible refine' jv_neI ?a ?b); (case a => walk_at "jv"); (case b => walk_at "jv"))
  | ((with_reducible refine' jv_chain ?a ?b ?c); (case a => walk_at "jv"); (case b => walk_at "jv"); (case c => walk_at "jv"))
  | ((with_reducible refine' jv_not ?a); (case a => walk_at "jv"))
  | ((with_reducible refine' jv_len ?a); (case a => walk_at "js"))
  | ((with_reducible refine' jv_lenU ?a); (case a => walk_at "ju"))
  | ((with_reducible refine' jv_min2 ?a ?b); (case a => walk_at "jv"); (case b => walk_at "jv"))
  | ((with_reducible refine' jv_max2 ?a ?b); (case a => walk_at "jv"); (case b => walk_at "jv"))
  | assumption)
local macro_rules | `(tactic| walk_at "js") => `(tactic| first
  | exact js_var rfl
  | exact js_own rfl
  | exact Jd.lowS (js_var rfl)
  | assumption
  | exact Jd.nS (by assumption))
local macro_rules | `(tactic| walk_at "ju") => `(tactic| first
  | exact ju_var rfl
  | assumption)
local macro_rules | `(tactic| walk_at "jd") => `(tactic| first
  | exact jd_var rfl
  | exact Jd.low (jd_var rfl)
  | exact Jd.low (by assumption)
  | assumption
  | ((refine' Jd.int (Jd.eqV ?a ?b)); (case a => walk_at "jv"); (case b => first | rfl | (congr 1; omega)))
  | ((refine' Jd.bool ?a); (case a => walk_at "jv")))
local macro_rules | `(tactic| walk_at "jf") => `(tactic| first
  | exact jf_nil
  | ((with_reducible refine' jf_cons ?a ?b); (case a => walk_at "jd"); (case b => walk_at "jf")))
local macro_rules | `(tactic| walk_at "less") => `(tactic| first
  | exact LessI.nil
  | (refine LessI.keep ?_; walk_at "less")
  | (refine LessI.drop ?_; walk_at "less"))
local macro_rules | `(tactic| walk_at "loop") => `(tactic| (refine' run_loopW ?x ?y; (case x => exact rfl); (case y => walk_at "less")))

section
variable {P : Program} {w : World} {K : PySem.W.Frag} {mg : Str → Option Value} {base : Heap}

def isTieD (d : D) (b : Int) : Bool := match d with
  | .tuple [x, y] => isBelow x b && isBelow y b
  | _ => false
def postTie (ds : List D) (out : Out) : Prop := ∃ d b, ds = [d, .int b] ∧ out = .val (.bool (isTieD d b))
theorem ok_is_tie (T : Tx K mg) : FnOk P w K mg base (L2.CX P w) 2 T.a_is_tie T.d_is_tie ["thing", "many"] (spD K T.cl [false, false] true preBelow postTie) := by
  refine fnD T.F_is_tie sc_is_tie rfl fun cdv A outer s E M B H Q ds hr hp wf ho => ?_
  obtain ⟨d, b, rfl, hs⟩ := hp
  refine ⟨_, (pss_one (ps_ret (pe_and (pe_callB (isi_K K rfl) (by rfl) T.n_isinstance (by decide +kernel) (pa_cons (pv 0) (pa_cons (pe_bltn (v := .ty "tuple") (by rfl) T.n_tuple (by decide +kernel) rfl) pa_nil))) (pe_and (pe_cmpR (op_eqK K rfl hr.units) (pe_callB (len_K K rfl) (by rfl) T.n_len (by decide +kernel) (pa_cons (pv 0) pa_nil)) pe_int (nomark _)) (pe_and (pe_callS (ok_is_below T) (hr.mono (by decide)) (by rfl) T.g_is_below T.F_is_below.kp T.b_is_below (fun σ => passAt (takes_of rfl rfl rfl rfl) σ) (pa_cons (pe_ix (ix_K K rfl) (pv 0) pe_int (fun _ _ => rfl)) (pa_cons (pv 1) pa_nil))) (pe_one (pe_callS (ok_is_below T) (hr.mono (by decide)) (by rfl) T.g_is_below T.F_is_below.kp T.b_is_below (fun σ => passAt (takes_of rfl rfl rfl rfl) σ) (pa_cons (pe_ix (ix_K K rfl) (pv 0) pe_int (fun _ _ => rfl)) (pa_cons (pv 1) pa_nil))))))))), ?_⟩
  refine run_retV (v := .bl (isTieD d b)) (n := true) (d := .bool (isTieD d b)) ?_ rfl (ho _ ⟨d, b, rfl, rfl⟩)
  have hv : JD K (tVar 0) (argEnv [false, false] [d, .int b] 2) false d := jd_var rfl
  cases d with
  | int i => exact (jv_and (c := false) (jv_isi hv kb_int_tuple) (fun e => nomatch e)).eqV (by simp [isTieD])
  | bool i => exact (jv_and (c := false) (jv_isi hv kb_bool_tuple) (fun e => nomatch e)).eqV (by simp [isTieD])
  | dict kvs => exact (jv_and (c := false) (jv_isi hv kb_dict_tuple (pln_scr hs)) (fun e => nomatch e)).eqV (by simp [isTieD])
  | none => exact (jv_and (c := false) (jv_isi hv kb_none_tuple) (fun e => nomatch e)).eqV (by simp [isTieD])
  | str x => exact (jv_and (c := false) (jv_isi hv kb_str_tuple) (fun e => nomatch e)).eqV (by simp [isTieD])
  | list x => exact (jv_and (c := false) (jv_isi hv kb_list_tuple) (fun e => nomatch e)).eqV (by simp [isTieD])
  | tuple xs =>
    refine (jv_and (b := true) (c := isTieD (.tuple xs) b) (jv_isi hv kb_tuple_tuple) fun _ => ?_).eqV rfl
    by_cases hl : xs.length = 2
    · obtain ⟨x, y, rfl⟩ : ∃ x y, xs = [x, y] := by
        match xs, hl with
        | [x, y], _ => exact ⟨x, y, rfl⟩
      have px : pln x = true ∧ pln y = true := by simpa [pln, plns] using hs
      have hx : JD K (tOp (rIx K) (tVar 0) (tC (.int 0))) (argEnv [false, false] [.tuple [x, y], .int b] 2) false x := jd_ixU hv.dU jv_c rfl
      have hy : JD K (tOp (rIx K) (tVar 0) (tC (.int 1))) (argEnv [false, false] [.tuple [x, y], .int b] 2) false y := jd_ixU hv.dU jv_c rfl
      refine (jv_and (b := true) ((jv_eqI (jv_lenU hv.dU) jv_c).eqV rfl) fun _ => jv_and (b := isBelow x b) (c := isBelow y b) (jv_callS (by walk_at "jf") ⟨x, b, rfl, px.1⟩ (fun out ⟨d, c, e, ho⟩ => by cases e; exact ho) rfl) fun _ => jv_callS (by walk_at "jf") ⟨y, b, rfl, px.2⟩ (fun out ⟨d, c, e, ho⟩ => by cases e; exact ho) rfl).eqV (by simp [isTieD])
    · refine (jv_and (b := false) (c := false) ((jv_eqI (jv_lenU hv.dU) jv_c).eqV ?_) (fun e => nomatch e)).eqV ?_
      · rw [decide_eq_false (by omega)]
      · congr 1
        match xs, hl with
        | [], _ => rfl
        | [_], _ => rfl
        | [_, _], h => exact absurd rfl h
        | _ :: _ :: _ :: _, _ => rfl

end
end Tr

namespace Tr
open PySem L2 DL TT
local macro_rules | `(tactic| walk_at "jv") => `(tactic| first
  | exact jv_c
  | exact jv_var rfl rfl
  | ((with_reducible refine' jv_add ?a ?b); (case a => walk_at "jv"); (case b => walk_at "jv"))
  | ((with_reducible refine' jv_sub ?a ?b); (case a => walk_at "jv"); (case b => walk_at "jv"))
  | ((with_reducible refine' jv_lt ?a ?b); (case a => walk_at "jv"); (case b => walk_at "jv"))
  | ((with_reducible refine' jv_le ?a ?b); (case a => walk_at "jv"); (case b => walk_at "jv"))
  | ((with_reducible refine' jv_gt ?a ?b); (case a => walk_at "jv"); (case b => walk_at "jv"))
  | ((with_reducible refine' jv_ge ?a ?b); (case a => walk_at "jv"); (case b => walk_at "jv"))
  | ((with_reducible refine' jv_eqI ?a ?b); (case a => walk_at "jv"); (case b => walk_at "jv"))
  | ((with_reducible refine' jv_neI ?a ?b); (case a => walk_at "jv"); (case b => walk_at "jv"))
  | ((with_reducible refine' jv_chain ?a ?b ?c); (case a => walk_at "jv"); (case b => walk_at "jv"); (case c => walk_at "jv"))
  | ((with_reducible refine' jv_not ?a); (case a => walk_at "jv"))
  | ((with_reducible refine' jv_len ?a); (case a => walk_at "js"))
  | ((with_reducible refine' jv_lenU ?a); (case a => walk_at "ju"))
  | ((with_reducible refine' jv_min2 ?a ?b); (case a => walk_at "jv"); (case b => walk_at "jv"))
  | ((with_reducible refine' jv_max2 ?a ?b); (case a => walk_at "jv"); (case b => walk_at "jv"))
  | assumption)
local macro_rules | `(tactic| walk_at "js") => `(tactic| first
  | exact js_var rfl
  | exact js_own rfl
  | exact Jd.lowS (js_var rfl)
  | assumption
  | exact Jd.nS (by assumption))
local macro_rules | `(tactic| walk_at "ju") => `(tactic| first
  | exact ju_var rfl
  | assumption)
local macro_rules | `(tactic| walk_at "jd") => `(tactic| first
  | exact jd_var rfl
  | exact Jd.low (jd_var rfl)
  | exact Jd.low (by assumption)
  | assumption
  | ((refine' Jd.int (Jd.eqV ?a ?b)); (case a => walk_at "jv"); (case b => first | rfl | (congr 1; omega)))
  | ((refine' Jd.bool ?a); (case a => walk_at "jv")))
local macro_rules | `(tactic| walk_at "jf") => `(tactic| first
  | exact jf_nil
  | ((with_reducible refine' jf_cons ?a ?b); (case a => walk_at "jd"); (case b => walk_at "jf")))
local macro_rules | `(tactic| walk_at "less") => `(tactic| first
  | exact LessI.nil
  | (refine LessI.keep ?_; walk_at "less")
  | (refine LessI.drop ?_; walk_at "less"))
local macro_rules | `(tactic| walk_at "loop") => `(tactic| (refine' run_loopW ?x ?y; (case x => exact rfl); (case y => walk_at "less")))

section
variable {P : Program} {w : World} {K : PySem.W.Frag} {mg : Str → Option Value} {base : Heap}

def isNet (m t : D) : Bool := match m, t with
  | .int n, .list ts => (decide (0 < n) && decide (n < 8)) && (decide (ts.length ≤ 16) && ts.all fun x => isTieD x n)
  | _, _ => false
def preNet (ds : List D) : Prop := ∃ m t, ds = [m, t] ∧ pln m = true ∧ pln t = true
def postNeed (ds : List D) (out : Out) : Prop := ∃ m t, ds = [m, t] ∧ out = if isNet m t = true then .val .none else .err .net
theorem ok_need_net (T : Tx K mg) : FnOk P w K mg base (L2.CX P w) 3 T.a_need_net T.d_need_net ["many", "ties"] (spD K T.cl [false, false] true preNet postNeed) := by
  refine fnD T.F_need_net sc_need_net rfl fun cdv A outer s E M B H Q ds hr hp wf ho => ?_
  obtain ⟨m, t, rfl, hm, ht⟩ := hp
  refine ⟨_, (pss_cons (ps_if (PW.pt (pw_or (pt_not (pt_val (pe_callS (ok_is_below T) (hr.mono (by decide)) (by rfl) T.g_is_below T.F_is_below.kp T.b_is_below (fun σ => passAt (takes_of rfl rfl rfl rfl) σ) (pa_cons (pv 0) (pa_cons (pe_op op_addD (pe_glob (v := .int 7) (by rfl) T.c_MOST_PLACES ⟨_, rfl⟩) pe_int) pa_nil))))) (pw_or (pt_cmpR (op_eqK K rfl hr.units) (pv 0) pe_int (nomark _)) (pw_or (pt_not (pt_val (pe_callB (isi_K K rfl) (by rfl) T.n_isinstance (by decide +kernel) (pa_cons (pv 1) (pa_cons (pe_bltn (v := .ty "list") (by rfl) T.n_list (by decide +kernel) rfl) pa_nil))))) (pw_or1 (pt_cmpR op_gt (pe_callB (len_K K rfl) (by rfl) T.n_len (by decide +kernel) (pa_cons (pv 1) pa_nil)) (pe_glob (v := .int 16) (by rfl) T.c_MOST_TIES ⟨_, rfl⟩) (nomark _)))))))
      (pss_one (ps_raise rfl (takes_of rfl rfl rfl rfl) (pmk_own PySem.F.excBase_ValueError T.x_BadNet T.gC_BadNet T.kC_BadNet (raises_own T.bC_BadNet T.tC_BadNet) (by rfl)))) pss_nil)
      (pss_one (ps_if (pt_not (pt_val (pe_callB (all_K K rfl rfl) (by rfl) T.n_all (by decide +kernel) (pa_cons (pe_lc (own := [("tie", 2)]) rfl sc_need_net.nd (list_pi K rfl (pv 1)) (blkOk_by (own := [("tie", 2)]) (N := ["many", "ties", "tie"]) (sc := defScope s_need_net) (by decide +kernel)) (fun _ _ _ _ _ => (pg_name (i := 2) sc_need_net.nd rfl (Or.inl rfl))) (fun _ _ _ _ _ => pts_nil) (fun _ _ _ _ _ => (pe_call (ok_is_tie T) (hr.mono (by decide)) (by rfl) T.g_is_tie T.F_is_tie.kp T.b_is_tie .nil passL (pa_cons (pv 2) (pa_cons (pv 0) pa_nil))))) pa_nil))))
      (pss_one (ps_raise rfl (takes_of rfl rfl rfl rfl) (pmk_own PySem.F.excBase_ValueError T.x_BadNet T.gC_BadNet T.kC_BadNet (raises_own T.bC_BadNet T.tC_BadNet) (by rfl)))) pss_nil))), ?_⟩
  have ho : OutOk K T.cl M B true H Q E (if isNet m t = true then .val .none else .err .net) := ho _ ⟨m, t, rfl, rfl⟩
  have vm : JD K (tVar 0) (argEnv [false, false] [m, t] 3) false m := jd_var rfl
  have vt : JD K (tVar 1) (argEnv [false, false] [m, t] 3) false t := jd_var rfl
  have bad : isNet m t = false → ∀ H', Same H H' → E (.ref (T.cl .net)) none H' := fun e => by
    rw [e] at ho
    exact ho
  have good : isNet m t = true → ∀ v H', Same H H' → Rp K B H' v .none → Q v H' := fun e => by
    rw [e] at ho
    exact ho
  rw [T.cl_BadNet] at bad
  have ask : ∀ {E' : L2.St → XK}, JV K (tCallS (spD K T.cl [false, false] true preBelow postBelow) E' (tCons (tVar 0) (tCons (tOp rAddD (tC (.int 7)) (tC (.int 1))) tNil))) (argEnv [false, false] [m, t] 3) (.bl (isBelow m 8)) := fun {E'} =>
    jv_callS (by walk_at "jf") ⟨m, 8, rfl, hm⟩ (fun out ⟨d, c, e, ho⟩ => by cases e; exact ho) rfl
  -- m is a number of places
  by_cases c1 : ∃ n : Int, m = .int n ∧ 0 ≤ n ∧ n < 8
  · obtain ⟨n, rfl, n0, n8⟩ := c1
    have eb : isBelow (.int n) 8 = true := by simp [isBelow, n0, n8]
    have eq0 : JV K (tOp (rEqD K) (tVar 0) (tC (.int 0))) (argEnv [false, false] [.int n, t] 3) (.bl (decide (n = 0))) := by walk_at "jv"
    by_cases c2 : n = 0
    · refine run_if (b := true) ((jt_or (b := false) (c := true) ((jt_not (jt_B ask)).to (by rw [eb]; rfl)) fun _ => jt_or (b := true) (c := true) (jt_test (eq0.eqV (by rw [decide_eq_true c2]))) fun e => nomatch e)) (fun _ => run_raise (bad ?_)) (fun e => nomatch e)
      subst c2
      cases t <;> simp [isNet]
    · have z2 : JV K (tOp (rEqD K) (tVar 0) (tC (.int 0))) (argEnv [false, false] [.int n, t] 3) (.bl false) := eq0.eqV (by rw [decide_eq_false c2])
      by_cases c3 : ∃ ts, t = .list ts
      · obtain ⟨ts, rfl⟩ := c3
        have gl : JV K (tOp (rI0 fun i j => .bl (decide (j < i))) (tCB (rLenQ K) (tCons (tVar 1) tNil)) (tC (.int 16))) (argEnv [false, false] [.int n, .list ts] 3) (.bl (decide ((16 : Int) < (ts.length : Int)))) := by walk_at "jv"
        by_cases c4 : ts.length ≤ 16
        · refine run_if (b := false) (jt_or (b := false) (c := false) ((jt_not (jt_B ask)).to (by rw [eb]; rfl)) fun _ => jt_or (b := false) (c := false) (jt_test z2) fun _ => jt_or (b := false) (c := false) ((jt_not (jt_B (jv_isi vt kb_list_list))).to rfl) fun _ => jt_test (gl.eqV (by rw [decide_eq_false (by omega)]))) (fun e => nomatch e) (fun _ => ?_)
          have all : JN K (tLc (iList K (tVar 1)) (gName 2) tYes (tCall (spD K T.cl [false, false] true preBelow postTie) [] E0 (tCons (tVar 2) (tCons (tVar 0) tNil))) [2]) (argEnv [false, false] [.int n, .list ts] 3) true (ts.map fun x => .bool (isTieD x n)) :=
            jn_mapL (enc := id) ts (fun x => .bool (isTieD x n)) (by rw [List.map_id]; exact js_var rfl) (by omega) fun x hx =>
              ⟨_, tg_name, Jd.bool (jv_call (by walk_at "jf") ⟨x, n, rfl, plns_mem (by simpa [pln] using ht) x hx⟩ (fun out ⟨d, c, e, ho⟩ => by cases e; exact ho) rfl)⟩
          have all' : JV K (tCB (rAll K) (tCons (tLc (iList K (tVar 1)) (gName 2) tYes (tCall (spD K T.cl [false, false] true preBelow postTie) [] E0 (tCons (tVar 2) (tCons (tVar 0) tNil))) [2]) tNil)) (argEnv [false, false] [.int n, .list ts] 3) (.bl (ts.all fun x => isTieD x n)) :=
            (jv_all (bs := ts.map fun x => isTieD x n) (all.nS.eqS (by rw [List.map_map]; rfl))).eqV (by rw [List.all_map]; rfl)
          have en : isNet (.int n) (.list ts) = ts.all fun x => isTieD x n := by
            show ((decide (0 < n) && decide (n < 8)) && (decide (ts.length ≤ 16) && _)) = _
            rw [decide_eq_true (by omega : 0 < n), decide_eq_true n8, decide_eq_true c4]
            rfl
          refine run_next (run_one (run_if (b := !(ts.all fun x => isTieD x n)) (jt_not (jt_B all')) (fun e => run_raise (bad ?_)) (fun e => run_next (run_endN fun σ H' s => good ?_ _ H' s .non))))
          · rw [en]
            simpa using e
          · rw [en]
            simpa using e
        · refine run_if (b := true) (jt_or (b := false) (c := true) ((jt_not (jt_B ask)).to (by rw [eb]; rfl)) fun _ => jt_or (b := false) (c := true) (jt_test z2) fun _ => jt_or (b := false) (c := true) ((jt_not (jt_B (jv_isi vt kb_list_list))).to rfl) fun _ => jt_test (gl.eqV (by rw [decide_eq_true (by omega)]))) (fun _ => run_raise (bad ?_)) (fun e => nomatch e)
          show ((decide (0 < n) && decide (n < 8)) && (decide (ts.length ≤ 16) && _)) = _
          rw [decide_eq_false c4]
          simp
      · have nl : ∃ b, kitB (tyN t) "list" = some b ∧ b = false := by
          cases t with
          | list ts => exact absurd ⟨ts, rfl⟩ c3
          | none => exact ⟨_, kb_none_list, rfl⟩
          | bool x => exact ⟨_, kb_bool_list, rfl⟩
          | int x => exact ⟨_, kb_int_list, rfl⟩
          | str x => exact ⟨_, kb_str_list, rfl⟩
          | tuple x => exact ⟨_, kb_tuple_list, rfl⟩
          | dict x => exact ⟨_, kb_dict_list, rfl⟩
        obtain ⟨b, hb, rfl⟩ := nl
        refine run_if (b := true) (jt_or (b := false) (c := true) ((jt_not (jt_B ask)).to (by rw [eb]; rfl)) fun _ => jt_or (b := false) (c := true) (jt_test z2) fun _ => jt_or (b := true) (c := true) ((jt_not (jt_B (jv_isi vt hb (pln_scr ht)))).to rfl) fun e => nomatch e) (fun _ => run_raise (bad ?_)) (fun e => nomatch e)
        cases t with
        | list ts => exact absurd ⟨ts, rfl⟩ c3
        | _ => rfl
  · have eb : isBelow m 8 = false := by
      cases m with
      | int n =>
        have : ¬ (0 ≤ n ∧ n < 8) := fun z => c1 ⟨n, rfl, z⟩
        simp only [isBelow]
        by_cases h0 : 0 ≤ n
        · rw [decide_eq_false (fun z : n < 8 => this ⟨h0, z⟩)]; simp
        · rw [decide_eq_false h0]; rfl
      | _ => rfl
    refine run_if (b := true) (jt_or (b := true) (c := true) ((jt_not (jt_B ask)).to (by rw [eb]; rfl)) fun e => nomatch e) (fun _ => run_raise (bad ?_)) (fun e => nomatch e)
    cases m with
    | int n =>
      have : ¬ (0 ≤ n ∧ n < 8) := fun z => c1 ⟨n, rfl, z⟩
      cases t with
      | list ts =>
        show ((decide (0 < n) && decide (n < 8)) && _) = _
        by_cases h0 : 0 < n
        · rw [decide_eq_false (fun z : n < 8 => this ⟨by omega, z⟩)]; simp
        · rw [decide_eq_false h0]; rfl
      | _ => rfl
    | _ => cases t <;> rfl
theorem isBelow_inv {d : D} {b : Int} (h : isBelow d b = true) : ∃ k : Nat, d = natD k ∧ (k : Int) < b := by
  cases d with
  | int i =>
    simp only [isBelow, Bool.and_eq_true, decide_eq_true_eq] at h
    exact ⟨i.toNat, by unfold natD; congr 1; omega, by omega⟩
  | _ => simp [isBelow] at h
theorem isTieD_inv {d : D} {n : Nat} (h : isTieD d (n : Int) = true) : ∃ t : Tie, d = tieD t ∧ t.1 < n ∧ t.2 < n := by
  cases d with
  | tuple xs =>
    match xs, h with
    | [x, y], h =>
      simp only [isTieD, Bool.and_eq_true] at h
      obtain ⟨a, rfl, ha⟩ := isBelow_inv h.1
      obtain ⟨b, rfl, hb⟩ := isBelow_inv h.2
      exact ⟨(a, b), rfl, by omega, by omega⟩
  | _ => simp [isTieD] at h
theorem isTieD_of {t : Tie} {n : Nat} : isTieD (tieD t) (n : Int) = true ↔ t.1 < n ∧ t.2 < n := by
  show ((decide (0 ≤ (t.1 : Int)) && decide ((t.1 : Int) < n)) && (decide (0 ≤ (t.2 : Int)) && decide ((t.2 : Int) < n))) = true ↔ _
  simp only [Bool.and_eq_true, decide_eq_true_eq]
  omega
theorem isNet_inv {m t : D} (h : isNet m t = true) : ∃ (n : Nat) (ts : List Tie), m = natD n ∧ t = .list (ts.map tieD) ∧ NetOk n ts := by
  cases m with
  | int i =>
    cases t with
    | list xs =>
      simp only [isNet, Bool.and_eq_true, decide_eq_true_eq] at h
      obtain ⟨⟨h1, h2⟩, h3, h4⟩ := h
      obtain ⟨n, rfl⟩ : ∃ n : Nat, i = (n : Int) := ⟨i.toNat, by omega⟩
      obtain ⟨ts, rfl⟩ := all_ties (fun x hx => let ⟨t, e, _⟩ := isTieD_inv hx; ⟨t, e⟩) h4
      refine ⟨n, ts, rfl, rfl, by omega, by omega, by rw [List.length_map] at h3; exact h3, fun t ht => ?_⟩
      exact isTieD_of.mp (List.all_eq_true.mp h4 _ (List.mem_map_of_mem ht))
    | _ => simp [isNet] at h
  | _ => simp [isNet] at h
theorem isNet_of {n : Nat} {ts : List Tie} (h : NetOk n ts) : isNet (natD n) (.list (ts.map tieD)) = true := by
  show ((decide (0 < (n : Int)) && decide ((n : Int) < 8)) && (decide ((ts.map tieD).length ≤ 16) && (ts.map tieD).all fun x => isTieD x n)) = true
  have h1 := h.pos
  have h2 := h.le
  have h3 := h.len
  simp only [Bool.and_eq_true, decide_eq_true_eq, List.length_map]
  refine ⟨⟨by omega, by omega⟩, h3, List.all_eq_true.mpr fun x hx => ?_⟩
  obtain ⟨t, ht, rfl⟩ := List.mem_map.mp hx
  exact isTieD_of.mpr (h.inb t ht)
/-- what comes of a net, or a refusal -/
def postOr (q : Nat → List Tie → Out → Prop) (ds : List D) (out : Out) : Prop := ∃ m t, ds = [m, t] ∧ ((isNet m t = false ∧ out = .err .net) ∨ ∃ n ts, m = natD n ∧ t = .list (ts.map tieD) ∧ NetOk n ts ∧ q n ts out)
theorem preNet_of (n : Nat) (ts : List Tie) : preNet [natD n, .list (ts.map tieD)] := ⟨_, _, rfl, rfl, pln_ties ts⟩
theorem postOr_net {q : Nat → List Tie → Out → Prop} {n : Nat} {ts : List Tie} {out : Out} (h : NetOk n ts) (p : postOr q [natD n, .list (ts.map tieD)] out) : q n ts out := by
  obtain ⟨m, t, e, p⟩ := p
  obtain ⟨e1, e2⟩ := one_cons e
  obtain ⟨e2, _⟩ := one_cons e2
  subst e1 e2
  rcases p with ⟨b, _⟩ | ⟨n', ts', e1, e2, _, q'⟩
  · rw [isNet_of h] at b
    cases b
  · obtain rfl := natD_inj e1
    obtain rfl := ties_inj (PyData.list.inj e2)
    exact q'
theorem postOr_bad {q : Nat → List Tie → Out → Prop} {m t : D} {out : Out} (h : isNet m t = false) (p : postOr q [m, t] out) : out = .err .net := by
  obtain ⟨m', t', e, p⟩ := p
  obtain ⟨e1, e2⟩ := one_cons e
  obtain ⟨e2, _⟩ := one_cons e2
  subst e1 e2
  rcases p with ⟨_, b⟩ | ⟨n', ts', e1, e2, ok, _⟩
  · exact b
  · subst e1 e2
    rw [isNet_of ok] at h
    cases h
theorem need_ok {n : Nat} {ts : List Tie} {out : Out} (h : NetOk n ts) (p : postNeed [natD n, .list (ts.map tieD)] out) : out = .val .none := by
  obtain ⟨m, t, e, po⟩ := p
  obtain ⟨e1, e2⟩ := one_cons e
  obtain ⟨e2, _⟩ := one_cons e2
  subst e1 e2
  rw [po, isNet_of h]
  rfl
theorem need_bad {m t : D} {out : Out} (h : isNet m t = false) (p : postNeed [m, t] out) : out = .err .net := by
  obtain ⟨m', t', e, po⟩ := p
  obtain ⟨e1, e2⟩ := one_cons e
  obtain ⟨e2, _⟩ := one_cons e2
  subst e1 e2
  rw [po, h]
  rfl

end
end Tr

namespace Tr
open PySem L2 DL TT
local macro_rules | `(tactic| walk_at "jv") => `(tactic| first
  | exact jv_c
  | exact jv_var rfl rfl
  | ((with_reducible refine' jv_add ?a ?b); (case a => walk_at "jv"); (case b => walk_at "jv"))
  | ((with_reducible refine' jv_sub ?a ?b); (case a => walk_at "jv"); (case b => walk_at "jv"))
  | ((with_reducible refine' jv_lt ?a ?b); (case a => walk_at "jv"); (case b => walk_at "jv"))
  | ((with_reducible refine' jv_le ?a ?b); (case a => walk_at "jv"); (case b => walk_at "jv"))
  | ((with_reducible refine' jv_gt ?a ?b); (case a => walk_at "jv"); (case b => walk_at "jv"))
  | ((with_reducible refine' jv_ge ?a ?b); (case a => walk_at "jv"); (case b => walk_at "jv"))
  | ((with_reducible refine' jv_eqI ?a ?b); (case a => walk_at "jv"); (case b => walk_at "jv"))
  | ((with_reducible refine' jv_neI ?a ?b); (case a => walk_at "jv"); (case b => walk_at "jv"))
  | ((with_reducible refine' jv_chain ?a ?b ?c); (case a => walk_at "jv"); (case b => walk_at "jv"); (case c => walk_at "jv"))
  | ((with_reducible refine' jv_not ?a); (case a => walk_at "jv"))
  | ((with_reducible refine' jv_len ?a); (case a => walk_at "js"))
  | ((with_reducible refine' jv_lenU ?a); (case a => walk_at "ju"))
  | ((with_reducible refine' jv_min2 ?a ?b); (case a => walk_at "jv"); (case b => walk_at "jv"))
  | ((with_reducible refine' jv_max2 ?a ?b); (case a => walk_at "jv"); (case b => walk_at "jv"))
  | assumption)
local macro_rules | `(tactic| walk_at "js") => `(tactic| first
  | exact js_var rfl
  | exact js_own rfl
  | exact Jd.lowS (js_var rfl)
  | assumption
  | exact Jd.nS (by assumption))
local macro_rules | `(tactic| walk_at "ju") => `(tactic| first
  | exact ju_var rfl
  | assumption)
local macro_rules | `(tactic| walk_at "jd") => `(tactic| first
  | exact jd_var rfl
  | exact Jd.low (jd_var rfl)
  | exact Jd.low (by assumption)
  | assumption
  | ((refine' Jd.int (Jd.eqV ?a ?b)); (case a => walk_at "jv"); (case b => first | rfl | (congr 1; omega)))
  | ((refine' Jd.bool ?a); (case a => walk_at "jv")))
local macro_rules | `(tactic| walk_at "jf") => `(tactic| first
  | exact jf_nil
  | ((with_reducible refine' jf_cons ?a ?b); (case a => walk_at "jd"); (case b => walk_at "jf")))
local macro_rules | `(tactic| walk_at "less") => `(tactic| first
  | exact LessI.nil
  | (refine LessI.keep ?_; walk_at "less")
  | (refine LessI.drop ?_; walk_at "less"))
local macro_rules | `(tactic| walk_at "loop") => `(tactic| (refine' run_loopW ?x ?y; (case x => exact rfl); (case y => walk_at "less")))

section
variable {P : Program} {w : World} {K : PySem.W.Frag} {mg : Str → Option Value} {base : Heap}

def preCell (ds : List D) : Prop := ∃ ns k, ds = [scrD ns, natD k]
def postCell (ds : List D) (out : Out) : Prop := ∃ ns k, ds = [scrD ns, natD k] ∧ out = .val (.int (cellf ns k))
theorem ok__law_cell_at (T : Tx K mg) : FnOk P w K mg base (L2.CX P w) 1 T.a__law_cell_at T.d__law_cell_at ["_law_script", "_law_k"] (spD K T.cl [false, false] true preCell postCell) := by
  refine fnD T.F__law_cell_at sc__law_cell_at rfl fun cdv A outer s E M B H Q ds hr hp wf ho => ?_
  obtain ⟨ns, k, rfl⟩ := hp
  refine ⟨_, (pss_cons (ps_if (pt_cmpR op_lt (pv 1) (pe_callB (len_K K rfl) (by rfl) T.n_len (by decide +kernel) (pa_cons (pv 0) pa_nil)) (nomark _))
      (pss_one (ps_ret (pe_ix (ix_K K rfl) (pv 0) (pv 1) (fun _ _ => rfl)))) pss_nil)
      (pss_one (ps_ret pe_int))), ?_⟩
  have ret := ho _ ⟨ns, k, rfl, rfl⟩
  refine run_if (b := decide ((k : Int) < (ns.length : Int))) (jt_test (jv_lt (jv_var rfl rfl) (jv_lenScr (jd_var rfl)))) (fun c => ?_) (fun c => ?_)
  · have c' : k < ns.length := by simpa using c
    exact run_retSeq (run_retV (jv_ixScr k (jd_var rfl) (jv_var rfl rfl) rfl c') rfl ret)
  · have c' : ¬ k < ns.length := by simpa using c
    have e : cellf ns k = 0 := by
      unfold cellf
      rw [List.getD_eq_getElem?_getD, List.getElem?_eq_none (by omega)]
      rfl
    rw [e] at ret
    exact run_next (run_retV jv_c rfl ret)

end
end Tr

namespace Tr
open PySem L2 DL TT
local macro_rules | `(tactic| walk_at "jv") => `(tactic| first
  | exact jv_c
  | exact jv_var rfl rfl
  | ((with_reducible refine' jv_add ?a ?b); (case a => walk_at "jv"); (case b => walk_at "jv"))
  | ((with_reducible refine' jv_sub ?a ?b); (case a => walk_at "jv"); (case b => walk_at "jv"))
  | ((with_reducible refine' jv_lt ?a ?b); (case a => walk_at "jv"); (case b => walk_at "jv"))
  | ((with_reducible refine' jv_le ?a ?b); (case a => walk_at "jv"); (case b => walk_at "jv"))
  | ((with_reducible refine' jv_gt ?a ?b); (case a => walk_at "jv"); (case b => walk_at "jv"))
  | ((with_reducible refine' jv_ge ?a ?b); (case a => walk_at "jv"); (case b => walk_at "jv"))
  | ((with_reducible refine' jv_eqI ?a ?b); (case a => walk_at "jv"); (case b => walk_at "jv"))
  | ((with_reducible refine' jv_neI ?a ?b); (case a => walk_at "jv"); (case b => walk_at "jv"))
  | ((with_reducible refine' jv_chain ?a ?b ?c); (case a => walk_at "jv"); (case b => walk_at "jv"); (case c => walk_at "jv"))
  | ((with_reducible refine' jv_not ?a); (case a => walk_at "jv"))
  | ((with_reducible refine' jv_len ?a); (case a => walk_at "js"))
  | ((with_reducible refine' jv_lenU ?a); (case a => walk_at "ju"))
  | ((with_reducible refine' jv_min2 ?a ?b); (case a => walk_at "jv"); (case b => walk_at "jv"))
  | ((with_reducible refine' jv_max2 ?a ?b); (case a => walk_at "jv"); (case b => walk_at "jv"))
  | assumption)
local macro_rules | `(tactic| walk_at "js") => `(tactic| first
  | exact js_var rfl
  | exact js_own rfl
  | exact Jd.lowS (js_var rfl)
  | assumption
  | exact Jd.nS (by assumption))
local macro_rules | `(tactic| walk_at "ju") => `(tactic| first
  | exact ju_var rfl
  | assumption)
local macro_rules | `(tactic| walk_at "jd") => `(tactic| first
  | exact jd_var rfl
  | exact Jd.low (jd_var rfl)
  | exact Jd.low (by assumption)
  | assumption
  | ((refine' Jd.int (Jd.eqV ?a ?b)); (case a => walk_at "jv"); (case b => first | rfl | (congr 1; omega)))
  | ((refine' Jd.bool ?a); (case a => walk_at "jv")))
local macro_rules | `(tactic| walk_at "jf") => `(tactic| first
  | exact jf_nil
  | ((with_reducible refine' jf_cons ?a ?b); (case a => walk_at "jd"); (case b => walk_at "jf")))
local macro_rules | `(tactic| walk_at "less") => `(tactic| first
  | exact LessI.nil
  | (refine LessI.keep ?_; walk_at "less")
  | (refine LessI.drop ?_; walk_at "less"))
local macro_rules | `(tactic| walk_at "loop") => `(tactic| (refine' run_loopW ?x ?y; (case x => exact rfl); (case y => walk_at "less")))

section
variable {P : Program} {w : World} {K : PySem.W.Frag} {mg : Str → Option Value} {base : Heap}

def preMixed (ds : List D) : Prop := ∃ ns k, ds = [scrD ns, natD k] ∧ ScrOk ns ∧ k ≤ 1000
def postMixed (ds : List D) (out : Out) : Prop := ∃ ns k, ds = [scrD ns, natD k] ∧ out = .val (natD (mixf ns k))
theorem ok__law_mixed (T : Tx K mg) : FnOk P w K mg base (L2.CX P w) 2 T.a__law_mixed T.d__law_mixed ["_law_script", "_law_k"] (spD K T.cl [false, false] true preMixed postMixed) := by
  refine fnD T.F__law_mixed sc__law_mixed rfl fun cdv A outer s E M B H Q ds hr hp wf ho => ?_
  obtain ⟨ns, k, rfl, so, hk⟩ := hp
  refine ⟨_, (pss_one (ps_ret (pe_op op_mod (pe_op op_addD (pe_op op_mulD (pe_callS (ok__law_cell_at T) (hr.mono (by decide)) (by rfl) T.g__law_cell_at T.F__law_cell_at.kp T.b__law_cell_at (fun σ => passAt (takes_of rfl rfl rfl rfl) σ) (pa_cons (pv 0) (pa_cons (pv 1) pa_nil))) pe_int) (pe_op op_mulD (pe_op op_mulD pe_int (pv 1)) (pv 1))) pe_int))), ?_⟩
  refine run_retV (v := .int (mixf ns k : Int)) (n := true) (d := natD (mixf ns k)) ?_ rfl (ho _ ⟨ns, k, rfl, rfl⟩)
  have hk2 : (k : Int).natAbs < 2 ^ 200 := by rw [Int.natAbs_natCast]; exact Nat.lt_of_le_of_lt hk (by decide)
  have h7 : (7919 * (k : Int)).natAbs < 2 ^ 200 := by
    rw [Int.natAbs_mul, Int.natAbs_natCast]
    exact Nat.lt_of_le_of_lt (Nat.mul_le_mul_left _ hk) (by decide)
  refine (jv_mod (jv_add (jv_mulW (jv_callS (d := .int (cellf ns k)) (by walk_at "jf") ⟨ns, k, rfl⟩ (fun out po => ?_) rfl) jv_c (cmulS (so.cell k))) (jv_mulS (jv_mulS jv_c (jv_var rfl rfl) (by decide) hk2) (jv_var rfl rfl) h7 hk2)) jv_c (by decide)).eqV (congrArg V.int (mixf_eq ns k))
  obtain ⟨ns', k', e, po⟩ := po
  obtain ⟨e1, e2⟩ := one_cons e
  rw [po, scrD_inj e1, natD_inj (one_cons e2).1]
theorem mixed_inj {ns ns' : List Int} {k k' : Nat} (e : [scrD ns, natD k] = [scrD ns', natD k']) : mixf ns' k' = mixf ns k := by
  obtain ⟨e1, e2⟩ := one_cons e
  rw [scrD_inj e1, natD_inj (one_cons e2).1]
theorem jv_mixC {cl : XC → Addr} {te : TE} {env : List Sl} {ns : List Int} (so : ScrOk ns) (k : Nat) (hk : k ≤ 1000) (h0 : env[0]? = some (.val false (scrD ns))) (ht : JD K te env false (natD k)) :
    JV K (tCall (spD K cl [false, false] true preMixed postMixed) [] E0 (tCons (tVar 0) (tCons te tNil))) env (.int (mixf ns k : Int)) :=
  jv_call (d := natD (mixf ns k)) (jf_cons (jd_var h0) (jf_cons ht jf_nil)) ⟨ns, k, rfl, so, hk⟩ (fun out ⟨ns', k', e, po⟩ => by rw [po, mixed_inj e]) rfl
theorem jv_mixS {cl : XC → Addr} {E' : L2.St → XK} {te : TE} {env : List Sl} {ns : List Int} (so : ScrOk ns) (k : Nat) (hk : k ≤ 1000) (h0 : env[0]? = some (.val false (scrD ns))) (ht : JD K te env false (natD k)) :
    JV K (tCallS (spD K cl [false, false] true preMixed postMixed) E' (tCons (tVar 0) (tCons te tNil))) env (.int (mixf ns k : Int)) :=
  jv_callS (d := natD (mixf ns k)) (jf_cons (jd_var h0) (jf_cons ht jf_nil)) ⟨ns, k, rfl, so, hk⟩ (fun out ⟨ns', k', e, po⟩ => by rw [po, mixed_inj e]) rfl

end
end Tr

namespace Tr
open PySem L2 DL TT
local macro_rules | `(tactic| walk_at "jv") => `(tactic| first
  | exact jv_c
  | exact jv_var rfl rfl
  | ((with_reducible refine' jv_add ?a ?b); (case a => walk_at "jv"); (case b => walk_at "jv"))
  | ((with_reducible refine' jv_sub ?a ?b); (case a => walk_at "jv"); (case b => walk_at "jv"))
  | ((with_reducible refine' jv_lt ?a ?b); (case a => walk_at "jv"); (case b => walk_at "jv"))
  | ((with_reducible refine' jv_le ?a ?b); (case a => walk_at "jv"); (case b => walk_at "jv"))
  | ((with_reducible refine' jv_gt ?a ?b); (case a => walk_at "jv"); (case b => walk_at "jv"))
  | ((with_reducible refine' jv_ge ?a ?b); (case a => walk_at "jv"); (case b => walk_at "jv"))
  | ((with_reducible refine' jv_eqI ?a ?b); (case a => walk_at "jv"); (case b => walk_at "jv"))
  | ((with_reducible refine' jv_neI ?a ?b); (case a => walk_at "jv"); (case b => walk_at "jv"))
  | ((with_reducible refine' jv_chain ?a ?b ?c); (case a => walk_at "jv"); (case b => walk_at "jv"); (case c => walk_at "jv"))
  | ((with_reducible refine' jv_not ?a); (case a => walk_at "jv"))
  | ((with_reducible refine' jv_len ?a); (case a => walk_at "js"))
  | ((with_reducible refine' jv_lenU ?a); (case a => walk_at "ju"))
  | ((with_reducible refine' jv_min2 ?a ?b); (case a => walk_at "jv"); (case b => walk_at "jv"))
  | ((with_reducible refine' jv_max2 ?a ?b); (case a => walk_at "jv"); (case b => walk_at "jv"))
  | assumption)
local macro_rules | `(tactic| walk_at "js") => `(tactic| first
  | exact js_var rfl
  | exact js_own rfl
  | exact Jd.lowS (js_var rfl)
  | assumption
  | exact Jd.nS (by assumption))
local macro_rules | `(tactic| walk_at "ju") => `(tactic| first
  | exact ju_var rfl
  | assumption)
local macro_rules | `(tactic| walk_at "jd") => `(tactic| first
  | exact jd_var rfl
  | exact Jd.low (jd_var rfl)
  | exact Jd.low (by assumption)
  | assumption
  | ((refine' Jd.int (Jd.eqV ?a ?b)); (case a => walk_at "jv"); (case b => first | rfl | (congr 1; omega)))
  | ((refine' Jd.bool ?a); (case a => walk_at "jv")))
local macro_rules | `(tactic| walk_at "jf") => `(tactic| first
  | exact jf_nil
  | ((with_reducible refine' jf_cons ?a ?b); (case a => walk_at "jd"); (case b => walk_at "jf")))
local macro_rules | `(tactic| walk_at "less") => `(tactic| first
  | exact LessI.nil
  | (refine LessI.keep ?_; walk_at "less")
  | (refine LessI.drop ?_; walk_at "less"))
local macro_rules | `(tactic| walk_at "loop") => `(tactic| (refine' run_loopW ?x ?y; (case x => exact rfl); (case y => walk_at "less")))

section
variable {P : Program} {w : World} {K : PySem.W.Frag} {mg : Str → Option Value} {base : Heap}

def preTree (ds : List D) : Prop := ∃ ns n, ds = [scrD ns, natD n] ∧ ScrOk ns ∧ 1 ≤ n ∧ n ≤ 100
def postTree (ds : List D) (out : Out) : Prop := ∃ (ns : List Int) (n : Nat) (ts : List Tie), ds = [scrD ns, natD n] ∧ ts.length = n - 1 ∧ Inb n ts ∧ out = .new (ts.map tieD)
theorem ok__law_tree (T : Tx K mg) : FnOk P w K mg base (L2.CX P w) 3 T.a__law_tree T.d__law_tree ["_law_script", "_law_many"] (spD K T.cl [false, false] true preTree postTree) := by
  refine fnD T.F__law_tree sc__law_tree rfl fun cdv A outer s E M B H Q ds hr hp wf ho => ?_
  obtain ⟨ns, n, rfl, so, n1, n9⟩ := hp
  refine ⟨_, (pss_cons (ps_set (i := 2) sc__law_tree.nd rfl (Or.inl rfl) (pe_lst pa_nil))
      (pss_cons (PS.nox (ps_for PassesOwn.never rfl (pi_range1 (by rfl) T.n_range (pa_cons (pe_op op_sub (pv 1) pe_int) pa_nil)) (pg_name (i := 3) sc__law_tree.nd rfl (Or.inl rfl))
      (pss_cons (ps_set (i := 4) sc__law_tree.nd rfl (Or.inl rfl) (pe_call (ok__law_mixed T) (hr.mono (by decide)) (by rfl) T.g__law_mixed T.F__law_mixed.kp T.b__law_mixed .nil passL (pa_cons (pv 0) (pa_cons (pe_op op_addD pe_int (pv 3)) pa_nil))))
      (pss_cons (ps_set (i := 5) sc__law_tree.nd rfl (Or.inl rfl) (pe_tup (pa_cons (pe_op op_mod (pv 4) (pe_op op_addD (pv 3) pe_int)) (pa_cons (pe_op op_addD (pv 3) pe_int) pa_nil))))
      (pss_one (ps_expr (bm_K K rfl PySem.F.plainAttrs_list PySem.F.slot_list_append PySem.F.type_list_append mt_append (pv 2) (pa_cons (pe_ix (ix_K K rfl) (pe_lst (pa_cons (pv 5) (pa_cons (pe_tup (pa_cons (pe_ix (ix_K K rfl) (pv 5) pe_int (fun _ _ => rfl)) (pa_cons (pe_ix (ix_K K rfl) (pv 5) pe_int (fun _ _ => rfl)) pa_nil))) pa_nil))) (pe_op op_mod (pe_op op_fdivA (pv 4) pe_int) pe_int) (fun _ _ => rfl)) pa_nil))))))))
      (pss_one (ps_ret (pv 2))))), ?_⟩
  refine run_setN (n := true) (ds := []) (jn_lst ja_nil (Nat.zero_le _)) ?_
  refine run_forR (k := (n : Int) - 1) (fun i env => ∃ ts : List Tie, env = [.val false (scrD ns), .val false (natD n), .own true (ts.map tieD), .un, .un, .un] ∧ ts.length = i ∧ Inb n ts) (jv_sub (jv_var rfl rfl) jv_c) (by omega) (by omega) ⟨[], rfl, rfl, fun t h => (nomatch h)⟩ (fun i env1 hi ⟨ts, e1, tl, tb⟩ => ?_) (fun env1 ⟨ts, e1, tl, tb⟩ => ?_)
  · subst e1
    have hi' : i + 1 < n := by omega
    obtain ⟨c, hc⟩ : ∃ c, c = mixf ns (4 + i) := ⟨_, rfl⟩
    refine run_setI (z := (c : Int)) ((jv_mixC so (4 + i) (by omega) rfl (Jd.int ((jv_add jv_c (jv_var rfl rfl)).eqV (by congr 1)))).eqV (by rw [hc])) ?_
    obtain ⟨a, ha⟩ : ∃ a, a = c % (i + 1) := ⟨_, rfl⟩
    have an : a < i + 1 := by rw [ha]; exact Nat.mod_lt _ (by omega)
    have jp : JV K (tOp rAddD (tVar 3) (tC (.int 1))) [.val false (scrD ns), .val false (natD n), .own true (ts.map tieD), .val true (natD i), .val true (.int (c : Int)), .un] (.int ((i + 1 : Nat) : Int)) := (jv_add (jv_var rfl rfl) jv_c).eqV (by congr 1)
    refine run_set (n := true) (d := tieD (a, i + 1)) (Jd.uD (ju_tup (ja_cons (Jd.int (j := (a : Int)) ((jv_mod (jv_var rfl rfl) jp (by omega)).eqV (by rw [ha]; congr 1))) (ja_cons (Jd.int jp) ja_nil)) (by simp))) ?_
    obtain ⟨t, ht⟩ : ∃ t : Tie, t = [(a, i + 1), (i + 1, a)].getD (c / 7 % 2) (0, 0) := ⟨_, rfl⟩
    have tb' : t.1 < n ∧ t.2 < n := by
      have : c / 7 % 2 = 0 ∨ c / 7 % 2 = 1 := by omega
      rcases this with z | z <;> rw [ht, z] <;> simp <;> omega
    refine run_one (run_appendE rfl (d := tieD t) ?_ (by rw [List.length_map]; omega) (run_loopW (env' := [.val false (scrD ns), .val false (natD n), .own true ((ts ++ [t]).map tieD), .un, .un, .un]) ⟨_, rfl, by simp [tl], fun u hu => ?_⟩ (by walk_at "less")) (by rw [List.map_append]; rfl))
    · have x0 : JD K (tOp (rIx K) (tVar 5) (tC (.int 0))) [.val false (scrD ns), .val false (natD n), .own true (ts.map tieD), .val true (natD i), .val true (.int (c : Int)), .val true (tieD (a, i + 1))] true (natD a) := jd_ixU (ju_var rfl) jv_c rfl
      have x1 : JD K (tOp (rIx K) (tVar 5) (tC (.int 1))) [.val false (scrD ns), .val false (natD n), .own true (ts.map tieD), .val true (natD i), .val true (.int (c : Int)), .val true (tieD (a, i + 1))] true (natD (i + 1)) := jd_ixU (ju_var rfl) jv_c rfl
      refine (jd_ixE (enc := tieD) (xs := [(a, i + 1), (i + 1, a)]) (c / 7 % 2) (0, 0) (n := true) (jn_lst (ja_cons (jd_var rfl) (ja_cons (Jd.uD (ju_tup (ja_cons x1 (ja_cons x0 ja_nil)) (by simp))) ja_nil)) (by simp)).nS (jv_mod (j := ((c / 7 : Nat) : Int)) (k := 2) ((jv_div (jv_var rfl rfl) jv_c (by decide) (by decide)).eqV (by congr 1)) jv_c (by decide)) rfl (by simp; omega)).eqD (by rw [ht])
    · rcases List.mem_append.mp hu with h | h
      · exact tb u h
      · rw [List.mem_singleton.mp h]; exact tb'
  · subst e1
    exact run_retO rfl (ho _ ⟨ns, n, ts, rfl, by omega, tb, rfl⟩)

end
end Tr

namespace Tr
open PySem L2 DL TT
local macro_rules | `(tactic| walk_at "jv") => `(tactic| first
  | exact jv_c
  | exact jv_var rfl rfl
  | ((with_reducible refine' jv_add ?a ?b); (case a => walk_at "jv"); (case b => walk_at "jv"))
  | ((with_reducible refine' jv_sub ?a ?b); (case a => walk_at "jv"); (case b => walk_at "jv"))
  | ((with_reducible refine' jv_lt ?a ?b); (case a => walk_at "jv"); (case b => walk_at "jv"))
  | ((with_reducible refine' jv_le ?a ?b); (case a => walk_at "jv"); (case b => walk_at "jv"))
  | ((with_reducible refine' jv_gt ?a ?b); (case a => walk_at "jv"); (case b => walk_at "jv"))
  | ((with_reducible refine' jv_ge ?a ?b); (case a => walk_at "jv"); (case b => walk_at "jv"))
  | ((with_reducible refine' jv_eqI ?a ?b); (case a => walk_at "jv"); (case b => walk_at "jv"))
  | ((with_reducible refine' jv_neI ?a ?b); (case a => walk_at "jv"); (case b => walk_at "jv"))
  | ((with_reducible refine' jv_chain ?a ?b ?c); (case a => walk_at "jv"); (case b => walk_at "jv"); (case c => walk_at "jv"))
  | ((with_reducible refine' jv_not ?a); (case a => walk_at "jv"))
  | ((with_reducible refine' jv_len ?a); (case a => walk_at "js"))
  | ((with_reducible refine' jv_lenU ?a); (case a => walk_at "ju"))
  | ((with_reducible refine' jv_min2 ?a ?b); (case a => walk_at "jv"); (case b => walk_at "jv"))
  | ((with_reducible refine' jv_max2 ?a ?b); (case a => walk_at "jv"); (case b => walk_at "jv"))
  | assumption)
local macro_rules | `(tactic| walk_at "js") => `(tactic| first
  | exact js_var rfl
  | exact js_own rfl
  | exact Jd.lowS (js_var rfl)
  | assumption
  | exact Jd.nS (by assumption))
local macro_rules | `(tactic| walk_at "ju") => `(tactic| first
  | exact ju_var rfl
  | assumption)
local macro_rules | `(tactic| walk_at "jd") => `(tactic| first
  | exact jd_var rfl
  | exact Jd.low (jd_var rfl)
  | exact Jd.low (by assumption)
  | assumption
  | ((refine' Jd.int (Jd.eqV ?a ?b)); (case a => walk_at "jv"); (case b => first | rfl | (congr 1; omega)))
  | ((refine' Jd.bool ?a); (case a => walk_at "jv")))
local macro_rules | `(tactic| walk_at "jf") => `(tactic| first
  | exact jf_nil
  | ((with_reducible refine' jf_cons ?a ?b); (case a => walk_at "jd"); (case b => walk_at "jf")))
local macro_rules | `(tactic| walk_at "less") => `(tactic| first
  | exact LessI.nil
  | (refine LessI.keep ?_; walk_at "less")
  | (refine LessI.drop ?_; walk_at "less"))
local macro_rules | `(tactic| walk_at "loop") => `(tactic| (refine' run_loopW ?x ?y; (case x => exact rfl); (case y => walk_at "less")))

section
variable {P : Program} {w : World} {K : PySem.W.Frag} {mg : Str → Option Value} {base : Heap}

def preLnet (ds : List D) : Prop := ∃ (ns : List Int) (m r : Nat), ds = [scrD ns, natD m, natD r] ∧ ScrOk ns ∧ 1 ≤ m ∧ m ≤ 7 ∧ m - 1 ≤ r ∧ r ≤ 16
def postLnet (ds : List D) (out : Out) : Prop := ∃ (ns : List Int) (m r n : Nat) (ts : List Tie), ds = [scrD ns, natD m, natD r] ∧ 1 ≤ n ∧ n ≤ m ∧ ts.length ≤ r ∧ Inb n ts ∧ out = .val (.tuple [natD n, .list (ts.map tieD)])
theorem ok__law_net (T : Tx K mg) : FnOk P w K mg base (L2.CX P w) 4 T.a__law_net T.d__law_net ["_law_script", "_law_most", "_law_room"] (spD K T.cl [false, false, false] true preLnet postLnet) := by
  refine fnD T.F__law_net sc__law_net rfl fun cdv A outer s E M B H Q ds hr hp wf ho => ?_
  obtain ⟨ns, m, r, rfl, so, m1, m7, r1, r16⟩ := hp
  refine ⟨_, (pss_cons (ps_set (i := 3) sc__law_net.nd rfl (Or.inl rfl) (pe_callS (ok__law_mixed T) (hr.mono (by decide)) (by rfl) T.g__law_mixed T.F__law_mixed.kp T.b__law_mixed (fun σ => passAt (takes_of rfl rfl rfl rfl) σ) (pa_cons (pv 0) (pa_cons pe_int pa_nil))))
      (pss_cons (ps_set (i := 4) sc__law_net.nd rfl (Or.inr rfl) (pe_op op_addD pe_int (pe_op op_mod (pv 3) (pv 1))))
      (pss_cons (ps_set (i := 5) sc__law_net.nd rfl (Or.inl rfl) (pe_lst pa_nil))
      (pss_cons (ps_if (pt_cmpR op_gt (pe_op op_mod (pe_op op_fdivA (pv 3) pe_int) pe_int) pe_int (nomark _))
      (pss_one (ps_set (i := 5) sc__law_net.nd rfl (Or.inl rfl) (pe_callS (ok__law_tree T) (hr.mono (by decide)) (by rfl) T.g__law_tree T.F__law_tree.kp T.b__law_tree (fun σ => passAt (takes_of rfl rfl rfl rfl) σ) (pa_cons (pv 0) (pa_cons (pv 4) pa_nil))))) pss_nil)
      (pss_cons (PS.nox (ps_for PassesOwn.never rfl (pi_range1 (by rfl) T.n_range (pa_cons (pe_op op_mod (pe_call (ok__law_mixed T) (hr.mono (by decide)) (by rfl) T.g__law_mixed T.F__law_mixed.kp T.b__law_mixed .nil passL (pa_cons (pv 0) (pa_cons pe_int pa_nil))) (pe_op op_addD (pe_op op_sub (pv 2) (pe_callB (len_K K rfl) (by rfl) T.n_len (by decide +kernel) (pa_cons (pv 5) pa_nil))) pe_int)) pa_nil)) (pg_name (i := 6) sc__law_net.nd rfl (Or.inl rfl))
      (pss_cons (ps_set (i := 7) sc__law_net.nd rfl (Or.inl rfl) (pe_call (ok__law_mixed T) (hr.mono (by decide)) (by rfl) T.g__law_mixed T.F__law_mixed.kp T.b__law_mixed .nil passL (pa_cons (pv 0) (pa_cons (pe_op op_addD pe_int (pv 6)) pa_nil))))
      (pss_cons (ps_set (i := 8) sc__law_net.nd rfl (Or.inl rfl) (pe_op op_mod (pv 7) (pv 4)))
      (pss_cons (ps_set (i := 9) sc__law_net.nd rfl (Or.inl rfl) (pe_tup (pa_cons (pv 8) (pa_cons (pe_op op_mod (pe_op op_addD (pv 8) (pe_op op_mod (pe_op op_fdivA (pv 7) pe_int) (pv 4))) (pv 4)) pa_nil))))
      (pss_cons (ps_if (PW.pt (pw_and (pt_cmpR (op_eqK K rfl hr.units) (pe_op op_mod (pe_op op_fdivA (pv 7) pe_int) pe_int) pe_int (nomark _)) (pw_and1 (pt_cmpR (op_neK K rfl hr.units) (pv 5) (pe_lst pa_nil) (nomark _)))))
      (pss_one (ps_set (i := 9) sc__law_net.nd rfl (Or.inl rfl) (pe_ix (ix_K K rfl) (pv 5) (pe_op op_mod (pe_op op_fdivA (pv 7) pe_int) (pe_callB (len_K K rfl) (by rfl) T.n_len (by decide +kernel) (pa_cons (pv 5) pa_nil))) (fun _ _ => rfl)))) pss_nil)
      (pss_one (ps_expr (bm_K K rfl PySem.F.plainAttrs_list PySem.F.slot_list_append PySem.F.type_list_append mt_append (pv 5) (pa_cons (pv 9) pa_nil))))))))))
      (pss_cons (ps_set (i := 10) sc__law_net.nd rfl (Or.inr rfl) (pe_op op_mod (pe_op op_fdivA (pv 3) pe_int) (pv 4)))
      (pss_cons (ps_setLc (i := 5) (own := [("_law_one", 8), ("_law_other", 11)]) rfl sc__law_net.nd rfl rfl (sw_true rfl rfl rfl (by decide +kernel)) (list_pi K rfl (pv 5)) (blkOk_by (own := [("_law_one", 8), ("_law_other", 11)]) (N := ["_law_script", "_law_most", "_law_room", "_law_first", "_law_many", "_law_ties", "_law_k", "_law_cell", "_law_one", "_law_tie", "_law_turn", "_law_other", "_law_at"]) (sc := defScope s__law_net) (by decide +kernel)) (fun _ _ _ _ _ => (pgt_K K (n := 2) rfl rfl (pgs_cons (pg_name (i := 8) sc__law_net.nd rfl (Or.inl rfl)) (pgs_cons (pg_name (i := 11) sc__law_net.nd rfl (Or.inl rfl)) pgs_nil)))) (fun _ _ _ _ _ => pts_nil) (fun _ _ _ _ _ => (pe_tup (pa_cons (pe_op op_mod (pe_op op_addD (pv 8) (pv 10)) (pv 4)) (pa_cons (pe_op op_mod (pe_op op_addD (pv 11) (pv 10)) (pv 4)) pa_nil)))))
      (pss_cons (ps_set (i := 12) sc__law_net.nd rfl (Or.inl rfl) (pe_op op_mod (pe_callS (ok__law_mixed T) (hr.mono (by decide)) (by rfl) T.g__law_mixed T.F__law_mixed.kp T.b__law_mixed (fun σ => passAt (takes_of rfl rfl rfl rfl) σ) (pa_cons (pv 0) (pa_cons pe_int pa_nil))) (pe_op op_addD (pe_callB (len_K K rfl) (by rfl) T.n_len (by decide +kernel) (pa_cons (pv 5) pa_nil)) pe_int)))
      (pss_one (ps_ret (pe_tup (pa_cons (pv 4) (pa_cons (pe_op op_addD (pe_slice (sl_K K rfl) (pv 5) (po_some (pv 12)) po_none) (pe_slice (sl_K K rfl) (pv 5) po_none (po_some (pv 12)))) pa_nil))))))))))))), ?_⟩
  refine run_setI (z := (mixf ns 0 : Int)) (jv_mixS so 0 (by decide) rfl (Jd.int jv_c)) ?_
  obtain ⟨f, hf⟩ : ∃ f, f = mixf ns 0 := ⟨_, rfl⟩
  rw [← hf]
  obtain ⟨n, hn⟩ : ∃ n, n = 1 + f % m := ⟨_, rfl⟩
  have fm : f % m < m := Nat.mod_lt _ (by omega)
  refine run_setI (z := (n : Int)) ((jv_add jv_c (jv_mod (jv_var rfl rfl) (jv_var rfl rfl) (by omega))).eqV (by rw [hn]; congr 1)) ?_
  have n1 : 1 ≤ n := by omega
  have nm : n ≤ m := by omega
  clear fm
  refine run_setN (n := true) (ds := []) (jn_lst ja_nil (Nat.zero_le _)) ?_
  refine run_ifJ (b := decide ((0 : Int) < (f : Int) / 7 % 5)) (fun env' => ∃ ts : List Tie, env' = [.val false (scrD ns), .val false (natD m), .val false (natD r), .val true (natD f), .val true (natD n), .own true (ts.map tieD), .un, .un, .un, .un, .un, .un, .un] ∧ ts.length ≤ n - 1 ∧ Inb n ts) (jt_test (jv_gt (jv_mod (jv_div (jv_var rfl rfl) jv_c (by decide) (by decide)) jv_c (by decide)) jv_c)) (fun env' ⟨ts, e1, tl, tb⟩ => ?_) (fun go _ => ?_) (fun go _ => ?_)
  · subst e1
    obtain ⟨dd, hdd⟩ : ∃ dd, dd = mixf ns 1 % (r - ts.length + 1) := ⟨_, rfl⟩
    have ddl : dd < r - ts.length + 1 := by rw [hdd]; exact Nat.mod_lt _ (by omega)
    refine run_forR (k := (dd : Int)) (fun i env => ∃ us : List Tie, env = [.val false (scrD ns), .val false (natD m), .val false (natD r), .val true (natD f), .val true (natD n), .own true (us.map tieD), .un, .un, .un, .un, .un, .un, .un] ∧ us.length = ts.length + i ∧ Inb n us) ((jv_mod (jv_mixS so 1 (by decide) rfl (Jd.int jv_c)) ((jv_add (jv_sub (jv_var rfl rfl) (jv_len (js_own rfl))) jv_c).eqV (x := .int ((r - ts.length + 1 : Nat) : Int)) (by rw [List.length_map]; congr 1; omega)) (by omega)).eqV (by rw [hdd]; congr 1)) (by omega) (by omega) ⟨ts, rfl, rfl, tb⟩ (fun i env1 hi ⟨us, e1, ul, ub⟩ => ?_) (fun env1 ⟨us, e1, ul, ub⟩ => ?_)
    · subst e1
      have hi' : i < dd := by omega
      obtain ⟨c, hc⟩ : ∃ c, c = mixf ns (11 + i) := ⟨_, rfl⟩
      refine run_setI (z := (c : Int)) ((jv_mixC so (11 + i) (by omega) rfl (Jd.int ((jv_add jv_c (jv_var rfl rfl)).eqV (by congr 1)))).eqV (by rw [hc])) ?_
      obtain ⟨a, ha⟩ : ∃ a, a = c % n := ⟨_, rfl⟩
      have an : a < n := by rw [ha]; exact Nat.mod_lt _ (by omega)
      refine run_setI (z := (a : Int)) ((jv_mod (jv_var rfl rfl) (jv_var rfl rfl) (by omega)).eqV (by rw [ha]; congr 1)) ?_
      obtain ⟨b, hb⟩ : ∃ b, b = (a + c / 7 % n) % n := ⟨_, rfl⟩
      have bn : b < n := by rw [hb]; exact Nat.mod_lt _ (by omega)
      refine run_set (n := true) (d := tieD (a, b)) (Jd.uD (ju_tup (ja_cons (jd_var rfl) (ja_cons (Jd.int (j := (b : Int)) ((jv_mod (jv_add (jv_var rfl rfl) (jv_mod (jv_div (jv_var rfl rfl) jv_c (by decide) (by decide)) (jv_var rfl rfl) (by omega))) (jv_var rfl rfl) (by omega)).eqV (by rw [hb]; congr 1))) ja_nil)) (by simp))) ?_
      refine run_ifJ (b := decide ((c : Int) / 49 % 6 = 5) && !decide (us = [])) (fun env' => ∃ t : Tie, env' = [.val false (scrD ns), .val false (natD m), .val false (natD r), .val true (natD f), .val true (natD n), .own true (us.map tieD), .un, .un, .un, .val true (tieD t), .un, .un, .un] ∧ t.1 < n ∧ t.2 < n) (jt_and (jt_test (jv_eqI (jv_mod (jv_div (jv_var rfl rfl) jv_c (by decide) (by decide)) jv_c (by decide)) jv_c)) fun _ => jt_test (jv_neB (d := .list (us.map tieD)) (e := .list []) (js_eE (js_own rfl) (okD_ties (k := 0) us)) (js_eE (jn_lst (n := true) ja_nil (by simp)).nS (okD_ties (k := 0) [])) (okD_ties (k := 0) us) (okD_ties (k := 0) []) ?_)) (fun env' ⟨t, e1, t1, t2⟩ => ?_) (fun go q => ?_) (fun go _ => ?_)
      · rw [decide_eq_true_iff]
        exact ⟨fun z => by rw [z]; rfl, fun z => ties_inj (b := []) (PyData.list.inj z)⟩
      · subst e1
        refine run_one (run_appendE rfl (jd_var rfl) (by rw [List.length_map]; omega) (run_loopW (env' := [.val false (scrD ns), .val false (natD m), .val false (natD r), .val true (natD f), .val true (natD n), .own true ((us ++ [t]).map tieD), .un, .un, .un, .un, .un, .un, .un]) ⟨_, rfl, by simp [ul]; omega, fun u hu => ?_⟩ (by walk_at "less")) (by rw [List.map_append]; rfl))
        rcases List.mem_append.mp hu with h | h
        · exact ub u h
        · rw [List.mem_singleton.mp h]; exact ⟨t1, t2⟩
      · have une : us ≠ [] := by
          have := (Bool.and_eq_true_iff.mp q).2
          simpa using this
        have up : 0 < us.length := List.length_pos_iff.mpr une
        have ixl : c / 300 % us.length < us.length := Nat.mod_lt _ up
        obtain ⟨t, ht⟩ : ∃ t, t = us.getD (c / 300 % us.length) (0, 0) := ⟨_, rfl⟩
        have tm : t ∈ us := by
          rw [ht, List.getD_eq_getElem?_getD, List.getElem?_eq_getElem ixl]
          exact List.getElem_mem _
        refine run_one (run_set (n := true) (d := tieD t) ((jd_ixE (enc := tieD) (c / 300 % us.length) (0, 0) (js_own rfl) (jv_mod (j := (c : Int) / 300) (k := (us.length : Int)) (jv_div (jv_var rfl rfl) jv_c (by decide) (by decide)) ((jv_len (js_own rfl)).eqV (by rw [List.length_map])) (by omega)) rfl ixl).eqD (by rw [ht])) (run_weak (LessI.less ?_) (go _ ⟨t, rfl, ub t tm⟩)))
        walk_at "less"
      · exact run_next (run_weak (LessI.less (by walk_at "less")) (go _ ⟨(a, b), rfl, an, bn⟩))
    · subst e1
      rw [Int.toNat_natCast] at ul
      have ulr : us.length ≤ r := by omega
      obtain ⟨u, hu⟩ : ∃ u, u = f / 35 % n := ⟨_, rfl⟩
      refine run_setI (z := (u : Int)) ((jv_mod (jv_div (jv_var rfl rfl) jv_c (by decide) (by decide)) (jv_var rfl rfl) (by omega)).eqV (by rw [hu]; congr 1)) ?_
      obtain ⟨vs, hv⟩ : ∃ vs : List Tie, vs = us.map fun t => ((t.1 + u) % n, (t.2 + u) % n) := ⟨_, rfl⟩
      have vl : vs.length = us.length := by rw [hv, List.length_map]
      have vb : Inb n vs := fun t ht => by
        rw [hv] at ht
        obtain ⟨q, _, rfl⟩ := List.mem_map.mp ht
        exact ⟨Nat.mod_lt _ (by omega), Nat.mod_lt _ (by omega)⟩
      refine run_set (n := true) (d := .list (vs.map tieD)) (((jn_mapL (enc := tieD) us (fun t => tieD ((t.1 + u) % n, (t.2 + u) % n)) (js_own rfl) (by omega) fun t ht => ⟨_, tg_two, ?_⟩).eqN (by rw [hv, List.map_map]; rfl)).nD) ?_
      · exact Jd.uD (ju_tup (ja_cons (Jd.int (j := (((t.1 + u) % n : Nat) : Int)) ((jv_mod (jv_add (jv_var rfl rfl) (jv_var rfl rfl)) (jv_var rfl rfl) (by omega)).eqV (by congr 1))) (ja_cons (Jd.int (j := (((t.2 + u) % n : Nat) : Int)) ((jv_mod (jv_add (jv_var rfl rfl) (jv_var rfl rfl)) (jv_var rfl rfl) (by omega)).eqV (by congr 1))) ja_nil)) (by simp))
      obtain ⟨k, hk⟩ : ∃ k, k = mixf ns 2 % (vs.length + 1) := ⟨_, rfl⟩
      refine run_setI (z := (k : Int)) ((jv_mod (jv_mixS so 2 (by decide) rfl (Jd.int jv_c)) ((jv_add (jv_len (js_var rfl)) jv_c).eqV (x := .int ((vs.length + 1 : Nat) : Int)) (by rw [List.length_map]; congr 1)) (by omega)).eqV (by rw [hk]; congr 1)) ?_
      refine run_ret (n := true) (d := .tuple [natD n, .list ((vs.drop k ++ vs.take k).map tieD)]) (Jd.uD (ju_tup (ja_cons (jd_var rfl) (ja_cons ?_ ja_nil)) (by simp))) (ho _ ⟨ns, m, r, n, vs.drop k ++ vs.take k, rfl, n1, nm, ?_, fun t ht => ?_, rfl⟩)
      · refine ((jn_cat (n := true) (ds := (vs.drop k).map tieD) (es := (vs.take k).map tieD) ?_ ?_ (by simp; omega)).eqN (by rw [List.map_append])).nD
        · refine ((jn_slice (js_var rfl) (jo_some (jv_var rfl rfl)) jo_none).eqN ?_).nS
          rw [cutG_map]
          congr 1
          exact cutG_from vs k
        · refine ((jn_slice (js_var rfl) jo_none (jo_some (jv_var rfl rfl))).eqN ?_).nS
          rw [cutG_map]
          congr 1
          exact cutG_to vs k
      · simp; omega
      · rcases List.mem_append.mp ht with h | h
        · exact vb t (List.mem_of_mem_drop h)
        · exact vb t (List.mem_of_mem_take h)
  · refine run_one (run_setNP (n := true) (jn_callSP (p := fun es => ∃ ts : List Tie, es = ts.map tieD ∧ ts.length = n - 1 ∧ Inb n ts) (jf_cons (jd_var rfl) (jf_cons (jd_var rfl).low jf_nil)) ⟨ns, n, rfl, so, n1, by omega⟩ fun out ⟨ns', n', ts, e, tl, tb, po⟩ => ?_) fun es ⟨ts, e, tl, tb⟩ => ?_)
    · obtain ⟨e1, e2⟩ := one_cons e
      obtain rfl := natD_inj (one_cons e2).1
      exact ⟨_, ⟨ts, rfl, tl, tb⟩, po⟩
    · rw [e]
      exact go _ ⟨ts, rfl, by omega, tb⟩
  · exact run_next (go _ ⟨[], rfl, by simp, fun t h => (nomatch h)⟩)

end
end Tr

namespace Tr
open PySem L2 DL TT
local macro_rules | `(tactic| walk_at "jv") => `(tactic| first
  | exact jv_c
  | exact jv_var rfl rfl
  | ((with_reducible refine' jv_add ?a ?b); (case a => walk_at "jv"); (case b => walk_at "jv"))
  | ((with_reducible refine' jv_sub ?a ?b); (case a => walk_at "jv"); (case b => walk_at "jv"))
  | ((with_reducible refine' jv_lt ?a ?b); (case a => walk_at "jv"); (case b => walk_at "jv"))
  | ((with_reducible refine' jv_le ?a ?b); (case a => walk_at "jv"); (case b => walk_at "jv"))
  | ((with_reducible refine' jv_gt ?a ?b); (case a => walk_at "jv"); (case b => walk_at "jv"))
  | ((with_reducible refine' jv_ge ?a ?b); (case a => walk_at "jv"); (case b => walk_at "jv"))
  | ((with_reducible refine' jv_eqI ?a ?b); (case a => walk_at "jv"); (case b => walk_at "jv"))
  | ((with_reducible refine' jv_neI ?a ?b); (case a => walk_at "jv"); (case b => walk_at "jv"))
  | ((with_reducible refine' jv_chain ?a ?b ?c); (case a => walk_at "jv"); (case b => walk_at "jv"); (case c => walk_at "jv"))
  | ((with_reducible refine' jv_not ?a); (case a => walk_at "jv"))
  | ((with_reducible refine' jv_len ?a); (case a => walk_at "js"))
  | ((with_reducible refine' jv_lenU ?a); (case a => walk_at "ju"))
  | ((with_reducible refine' jv_min2 ?a ?b); (case a => walk_at "jv"); (case b => walk_at "jv"))
  | ((with_reducible refine' jv_max2 ?a ?b); (case a => walk_at "jv"); (case b => walk_at "jv"))
  | assumption)
local macro_rules | `(tactic| walk_at "js") => `(tactic| first
  | exact js_var rfl
  | exact js_own rfl
  | exact Jd.lowS (js_var rfl)
  | assumption
  | exact Jd.nS (by assumption))
local macro_rules | `(tactic| walk_at "ju") => `(tactic| first
  | exact ju_var rfl
  | assumption)
local macro_rules | `(tactic| walk_at "jd") => `(tactic| first
  | exact jd_var rfl
  | exact Jd.low (jd_var rfl)
  | exact Jd.low (by assumption)
  | assumption
  | ((refine' Jd.int (Jd.eqV ?a ?b)); (case a => walk_at "jv"); (case b => first | rfl | (congr 1; omega)))
  | ((refine' Jd.bool ?a); (case a => walk_at "jv")))
local macro_rules | `(tactic| walk_at "jf") => `(tactic| first
  | exact jf_nil
  | ((with_reducible refine' jf_cons ?a ?b); (case a => walk_at "jd"); (case b => walk_at "jf")))
local macro_rules | `(tactic| walk_at "less") => `(tactic| first
  | exact LessI.nil
  | (refine LessI.keep ?_; walk_at "less")
  | (refine LessI.drop ?_; walk_at "less"))
local macro_rules | `(tactic| walk_at "loop") => `(tactic| (refine' run_loopW ?x ?y; (case x => exact rfl); (case y => walk_at "less")))

section
variable {P : Program} {w : World} {K : PySem.W.Frag} {mg : Str → Option Value} {base : Heap}

-- leans on ok_need_net
def Leaf (d : D) : Prop := pln d = true ∧ Sml 2 700 d
theorem leaf_int {i : Int} (h : i.natAbs < 10 ^ 30) : Leaf (.int i) := ⟨rfl, (sml_int h).mono⟩
theorem leaf_nat {x : Nat} (h : x < 10 ^ 30) : Leaf (natD x) := ⟨rfl, (sml_int (i := (x : Int)) h).mono⟩
theorem leaf_small {x : Nat} (h : x ≤ 20) : Leaf (natD x) := leaf_nat (Nat.lt_of_le_of_lt h (by decide +kernel))
theorem leaf_bool (b : Bool) : Leaf (.bool b) := ⟨rfl, (sml_bool b).mono⟩
theorem leaf_none : Leaf .none := ⟨rfl, sml_none.mono⟩
theorem leaf_str {x : Str} (h : (x.cps.toList.all fun c => decide (c < 16 ^ 8)) = true) (l : x.cps.size ≤ 110) : Leaf (.str x) := ⟨rfl, (sml_str h l).mono⟩
/-- flat -/
def Flt0 (d : D) : Prop := pln d = true ∧ Sml 0 110 d
theorem f_int {i : Int} (h : i.natAbs < 10 ^ 30) : Flt0 (.int i) := ⟨rfl, sml_int h⟩
theorem f_small {i : Int} (h : i.natAbs ≤ 20) : Flt0 (.int i) := f_int (Nat.lt_of_le_of_lt h (by decide +kernel))
theorem f_bool (b : Bool) : Flt0 (.bool b) := ⟨rfl, sml_bool b⟩
theorem f_str0 : Flt0 (.str "0") := ⟨rfl, sml_str (by decide +kernel) (by decide +kernel)⟩
theorem leaf_tup {xs : List D} (h : ∀ d, d ∈ xs → Flt0 d) (l : xs.length ≤ 3) : Leaf (.tuple xs) := ⟨plns_of fun d hd => (h d hd).1, (sml_tuple (l := 3) (fun d hd => (h d hd).2) l).mono⟩
theorem leaf_lst {xs : List D} (h : ∀ d, d ∈ xs → Flt0 d) (l : xs.length ≤ 3) : Leaf (.list xs) := ⟨plns_of fun d hd => (h d hd).1, (sml_list (l := 3) (fun d hd => (h d hd).2) l).mono⟩
theorem leaf_tie {t : Tie} {n : Nat} (h : t.1 < n ∧ t.2 < n) (hn : n ≤ 7) : Leaf (tieD t) := leaf_tup (xs := [natD t.1, natD t.2]) (fun d hd => by
  rcases List.mem_cons.mp hd with z | z
  · rw [z]; exact f_small (i := (t.1 : Int)) (by omega)
  · rw [List.mem_singleton.mp z]; exact f_small (i := (t.2 : Int)) (by omega)) (by simp)
def badsD (n f : Nat) : List D := [.tuple [natD 0, natD n], .tuple [natD n, natD 0], .tuple [.int (-1), natD 0], .tuple [natD 0, .int (-1 - (f : Int))], .tuple [natD 0], .tuple [natD 0, natD 0, natD 0], .list [natD 0, natD 0], .none, .tuple [.bool true, natD 0], .tuple [natD 0, .bool false]]
def badsE (n f : Nat) : List D := [.tuple [natD 0, .str "0"], natD 5, .str "00", .tuple [natD (n + f), natD 0]]
theorem two_f {a b : D} (ha : Flt0 a) (hb : Flt0 b) : Leaf (.tuple [a, b]) := leaf_tup (fun d hd => by
  rcases List.mem_cons.mp hd with z | z
  · rw [z]; exact ha
  · rw [List.mem_singleton.mp z]; exact hb) (by simp)
theorem bads_ok {n f : Nat} (hn : n ≤ 7) (hf : f ≤ 10 ^ 20) : ∀ d, d ∈ badsD n f ++ badsE n f → Leaf d ∧ isTieD d (n : Int) = false := fun d hd => by
  have z0 : Flt0 (natD 0) := f_small (i := 0) (by decide)
  have zn : Flt0 (natD n) := f_small (i := (n : Int)) (by omega)
  have nn : isBelow (natD n) (n : Int) = false := by
    show (decide ((0 : Int) ≤ (n : Int)) && decide ((n : Int) < (n : Int))) = false
    rw [decide_eq_false (show ¬ (n : Int) < (n : Int) by omega), Bool.and_false]
  have big : ∀ i : Int, i.natAbs ≤ 10 ^ 20 + 20 → Flt0 (.int i) := fun i hi => f_int (Nat.lt_of_le_of_lt hi (by decide +kernel))
  unfold badsD badsE at hd
  simp only [List.cons_append, List.nil_append, List.mem_cons, List.not_mem_nil, or_false] at hd
  rcases hd with rfl | rfl | rfl | rfl | rfl | rfl | rfl | rfl | rfl | rfl | rfl | rfl | rfl | rfl
  · refine ⟨two_f z0 zn, ?_⟩
    show (isBelow (natD 0) (n : Int) && isBelow (natD n) (n : Int)) = false
    rw [nn, Bool.and_false]
  · refine ⟨two_f zn z0, ?_⟩
    show (isBelow (natD n) (n : Int) && isBelow (natD 0) (n : Int)) = false
    rw [nn, Bool.false_and]
  · exact ⟨two_f (f_small (by decide)) z0, rfl⟩
  · refine ⟨two_f z0 (big _ ?_), ?_⟩
    · have e : (-1 - (f : Int)).natAbs = f + 1 := by omega
      rw [e]
      exact Nat.add_le_add hf (by decide)
    · show (isBelow (natD 0) (n : Int) && (decide ((0 : Int) ≤ -1 - (f : Int)) && decide (-1 - (f : Int) < (n : Int)))) = false
      rw [decide_eq_false (show ¬ (0 : Int) ≤ -1 - (f : Int) by omega), Bool.false_and, Bool.and_false]
  · exact ⟨leaf_tup (fun d hd => by rw [List.mem_singleton.mp hd]; exact z0) (by simp), rfl⟩
  · refine ⟨leaf_tup (fun d hd => ?_) (by simp), rfl⟩
    simp only [List.mem_cons, List.not_mem_nil, or_false] at hd
    rcases hd with rfl | rfl | rfl <;> exact z0
  · refine ⟨leaf_lst (fun d hd => ?_) (by simp), rfl⟩
    simp only [List.mem_cons, List.not_mem_nil, or_false] at hd
    rcases hd with rfl | rfl <;> exact z0
  · exact ⟨leaf_none, rfl⟩
  · exact ⟨two_f (f_bool true) z0, rfl⟩
  · refine ⟨two_f z0 (f_bool false), ?_⟩
    show (isBelow (natD 0) (n : Int) && false) = false
    rw [Bool.and_false]
  · refine ⟨two_f z0 f_str0, ?_⟩
    show (isBelow (natD 0) (n : Int) && false) = false
    rw [Bool.and_false]
  · exact ⟨leaf_small (x := 5) (by decide), rfl⟩
  · exact ⟨leaf_str (by decide +kernel) (by decide +kernel), rfl⟩
  · refine ⟨two_f (big _ ?_) z0, ?_⟩
    · rw [Int.natAbs_natCast, Nat.add_comm]
      exact Nat.add_le_add hf (by omega)
    · show ((decide ((0 : Int) ≤ ((n + f : Nat) : Int)) && decide (((n + f : Nat) : Int) < (n : Int))) && isBelow (natD 0) (n : Int)) = false
      rw [decide_eq_false (show ¬ ((n + f : Nat) : Int) < (n : Int) by omega), Bool.and_false, Bool.false_and]
def preBt (ds : List D) : Prop := ∃ c n : Nat, ds = [natD c, natD n] ∧ n ≤ 7
def btD (c n : Nat) : D := (badsD n (c / 14 % 10 ^ 20) ++ badsE n (c / 14 % 10 ^ 20)).getD (c % 14) .none
theorem bt_ok {c n : Nat} (n7 : n ≤ 7) : Leaf (btD c n) ∧ isTieD (btD c n) (n : Int) = false := by
  have k14 : c % 14 < (badsD n (c / 14 % 10 ^ 20) ++ badsE n (c / 14 % 10 ^ 20)).length := Nat.mod_lt _ (by decide)
  refine bads_ok n7 (Nat.le_of_lt (Nat.mod_lt (c / 14) (by decide +kernel))) _ ?_
  unfold btD
  rw [List.getD_eq_getElem?_getD, List.getElem?_eq_getElem k14]
  exact List.getElem_mem _
def postBt (ds : List D) (out : Out) : Prop := ∃ (c n : Nat), ds = [natD c, natD n] ∧ out = .val (btD c n)
theorem ok__law_bad_tie (T : Tx K mg) : FnOk P w K mg base (L2.CX P w) 1 T.a__law_bad_tie T.d__law_bad_tie ["_law_cell", "_law_many"] (spD K T.cl [false, false] true preBt postBt) := by
  refine fnD T.F__law_bad_tie sc__law_bad_tie rfl fun cdv A outer s E M B H Q ds hr hp wf ho => ?_
  obtain ⟨c, n, rfl, n7⟩ := hp
  refine ⟨_, (pss_cons (ps_set (i := 2) sc__law_bad_tie.nd rfl (Or.inl rfl) (pe_op op_mod (pe_op op_fdivA (pv 0) pe_int) (pe_op op_pow pe_int pe_int)))
      (pss_cons (ps_set (i := 3) sc__law_bad_tie.nd rfl (Or.inl rfl) (pe_lst (pa_cons (pe_tup (pa_cons pe_int (pa_cons (pv 1) pa_nil))) (pa_cons (pe_tup (pa_cons (pv 1) (pa_cons pe_int pa_nil))) (pa_cons (pe_tup (pa_cons (pe_un un_neg pe_int) (pa_cons pe_int pa_nil))) (pa_cons (pe_tup (pa_cons pe_int (pa_cons (pe_op op_sub (pe_un un_neg pe_int) (pv 2)) pa_nil))) (pa_cons (pe_tup (pa_cons pe_int pa_nil)) (pa_cons (pe_tup (pa_cons pe_int (pa_cons pe_int (pa_cons pe_int pa_nil)))) (pa_cons (pe_lst (pa_cons pe_int (pa_cons pe_int pa_nil))) (pa_cons pe_non (pa_cons (pe_tup (pa_cons pe_bl (pa_cons pe_int pa_nil))) (pa_cons (pe_tup (pa_cons pe_int (pa_cons pe_bl pa_nil))) pa_nil))))))))))))
      (pss_one (ps_ret (pe_ix (ix_K K rfl) (pe_op op_addD (pv 3) (pe_lst (pa_cons (pe_tup (pa_cons pe_int (pa_cons pe_str pa_nil))) (pa_cons pe_int (pa_cons pe_str (pa_cons (pe_tup (pa_cons (pe_op op_addD (pv 1) (pv 2)) (pa_cons pe_int pa_nil))) pa_nil)))))) (pe_op op_mod (pv 0) pe_int) (fun _ _ => rfl)))))), ?_⟩
  obtain ⟨f, hf⟩ : ∃ f, f = c / 14 % 10 ^ 20 := ⟨_, rfl⟩
  have fl : f ≤ 10 ^ 20 := by rw [hf]; exact Nat.le_of_lt (Nat.mod_lt _ (by decide +kernel))
  refine run_setI (z := (f : Int)) ((jv_mod (j := (c : Int) / 14) (k := (10 : Int) ^ (20 : Int).toNat) (jv_div (jv_var rfl rfl) jv_c (by decide) (by decide)) (jv_pow jv_c jv_c ⟨by decide, by decide, by decide⟩) (by decide +kernel)).eqV (by rw [hf]; congr 1)) ?_
  refine run_set (n := true) (d := .list (badsD n f)) (jn_lst (ja_cons (Jd.uD (ju_tup (ja_cons (Jd.int jv_c) (ja_cons (jd_nat rfl) ja_nil)) (by simp))) (ja_cons (Jd.uD (ju_tup (ja_cons (jd_nat rfl) (ja_cons (Jd.int jv_c) ja_nil)) (by simp))) (ja_cons (Jd.uD (ju_tup (ja_cons (Jd.int jv_m1) (ja_cons (Jd.int jv_c) ja_nil)) (by simp))) (ja_cons (Jd.uD (ju_tup (ja_cons (Jd.int jv_c) (ja_cons (Jd.int (jv_sub jv_m1 (jv_var (d := natD f) rfl rfl))) ja_nil)) (by simp))) (ja_cons (Jd.uD (ju_tup (ja_cons (Jd.int jv_c) ja_nil) (by simp))) (ja_cons (Jd.uD (ju_tup (ja_cons (Jd.int jv_c) (ja_cons (Jd.int jv_c) (ja_cons (Jd.int jv_c) ja_nil))) (by simp))) (ja_cons (jn_lst (ja_cons (Jd.int jv_c) (ja_cons (Jd.int jv_c) ja_nil)) (by simp)).nD (ja_cons (Jd.ofV jv_c rfl) (ja_cons (Jd.uD (ju_tup (ja_cons (Jd.bool jv_c) (ja_cons (Jd.int jv_c) ja_nil)) (by simp))) (ja_cons (Jd.uD (ju_tup (ja_cons (Jd.int jv_c) (ja_cons (Jd.bool jv_c) ja_nil)) (by simp))) ja_nil)))))))))) (by simp [badsD])).nD ?_
  have k14 : c % 14 < (badsD n f ++ badsE n f).length := Nat.mod_lt _ (by decide)
  refine run_ret (n := true) (d := (badsD n f ++ badsE n f).getD (c % 14) .none) (jd_ixE (enc := id) (xs := badsD n f ++ badsE n f) (c % 14) .none ((jn_cat (js_var rfl) (jn_lst (ds := badsE n f) (ja_cons (Jd.uD (ju_tup (ja_cons (Jd.int jv_c) (ja_cons (Jd.ofV jv_c rfl) ja_nil)) (by simp))) (ja_cons (Jd.int jv_c) (ja_cons (Jd.ofV jv_c rfl) (ja_cons (Jd.uD (ju_tup (ja_cons (Jd.int (j := ((n + f : Nat) : Int)) ((jv_add (jv_var (d := natD n) rfl rfl) (jv_var (d := natD f) rfl rfl)).eqV (by congr 1))) (ja_cons (Jd.int jv_c) ja_nil)) (by simp))) ja_nil)))) (by simp [badsE])).nS (by simp [badsD, badsE])).nS.eqS (List.map_id _).symm) ((jv_mod (jv_var rfl rfl) jv_c (by decide)).eqV (by congr 1)) rfl k14) (ho (.val ((badsD n f ++ badsE n f).getD (c % 14) .none)) ?_)
  exact ⟨c, n, rfl, by unfold btD; rw [← hf]⟩
theorem bt_inj {c n : Nat} {out : Out} (p : postBt [natD c, natD n] out) : out = .val (btD c n) := by
  obtain ⟨c', n', e, po⟩ := p
  rw [natD_inj (one_cons e).1, natD_inj (one_cons (one_cons e).2).1]
  exact po

end
end Tr

namespace Tr
open PySem L2 DL TT
local macro_rules | `(tactic| walk_at "jv") => `(tactic| first
  | exact jv_c
  | exact jv_var rfl rfl
  | ((with_reducible refine' jv_add ?a ?b); (case a => walk_at "jv"); (case b => walk_at "jv"))
  | ((with_reducible refine' jv_sub ?a ?b); (case a => walk_at "jv"); (case b => walk_at "jv"))
  | ((with_reducible refine' jv_lt ?a ?b); (case a => walk_at "jv"); (case b => walk_at "jv"))
  | ((with_reducible refine' jv_le ?a ?b); (case a => walk_at "jv"); (case b => walk_at "jv"))
  | ((with_reducible refine' jv_gt ?a ?b); (case a => walk_at "jv"); (case b => walk_at "jv"))
  | ((with_reducible refine' jv_ge ?a ?b); (case a => walk_at "jv"); (case b => walk_at "jv"))
  | ((with_reducible refine' jv_eqI ?a ?b); (case a => walk_at "jv"); (case b => walk_at "jv"))
  | ((with_reducible refine' jv_neI ?a ?b); (case a => walk_at "jv"); (case b => walk_at "jv"))
  | ((with_reducible refine' jv_chain ?a ?b ?c); (case a => walk_at "jv"); (case b => walk_at "jv"); (case c => walk_at "jv"))
  | ((with_reducible refine' jv_not ?a); (case a => walk_at "jv"))
  | ((with_reducible refine' jv_len ?a); (case a => walk_at "js"))
  | ((with_reducible refine' jv_lenU ?a); (case a => walk_at "ju"))
  | ((with_reducible refine' jv_min2 ?a ?b); (case a => walk_at "jv"); (case b => walk_at "jv"))
  | ((with_reducible refine' jv_max2 ?a ?b); (case a => walk_at "jv"); (case b => walk_at "jv"))
  | assumption)
local macro_rules | `(tactic| walk_at "js") => `(tactic| first
  | exact js_var rfl
  | exact js_own rfl
  | exact Jd.lowS (js_var rfl)
  | assumption
  | exact Jd.nS (by assumption))
local macro_rules | `(tactic| walk_at "ju") => `(tactic| first
  | exact ju_var rfl
  | assumption)
local macro_rules | `(tactic| walk_at "jd") => `(tactic| first
  | exact jd_var rfl
  | exact Jd.low (jd_var rfl)
  | exact Jd.low (by assumption)
  | assumption
  | ((refine' Jd.int (Jd.eqV ?a ?b)); (case a => walk_at "jv"); (case b => first | rfl | (congr 1; omega)))
  | ((refine' Jd.bool ?a); (case a => walk_at "jv")))
local macro_rules | `(tactic| walk_at "jf") => `(tactic| first
  | exact jf_nil
  | ((with_reducible refine' jf_cons ?a ?b); (case a => walk_at "jd"); (case b => walk_at "jf")))
local macro_rules | `(tactic| walk_at "less") => `(tactic| first
  | exact LessI.nil
  | (refine LessI.keep ?_; walk_at "less")
  | (refine LessI.drop ?_; walk_at "less"))
local macro_rules | `(tactic| walk_at "loop") => `(tactic| (refine' run_loopW ?x ?y; (case x => exact rfl); (case y => walk_at "less")))

section
variable {P : Program} {w : World} {K : PySem.W.Frag} {mg : Str → Option Value} {base : Heap}

-- leans on ok__law_bad_tie
/-- no net, and its text is told -/
structure BadN (m t : D) : Prop where
  no : isNet m t = false
  pm : pln m = true
  pt : pln t = true
  so : StrOk (.tuple [m, t])
theorem badn_of {m t : D} (h : isNet m t = false) (hm : Leaf m) (pt : pln t = true) (st : Sml 3 20000 t) : BadN m t := ⟨h, hm.1, pt, (sml_tuple (j := 3) (m := 20000) (l := 2) (fun d hd => by
  rcases List.mem_cons.mp hd with z | z
  · rw [z]; exact hm.2.mono
  · rw [List.mem_singleton.mp z]; exact st) (by simp)).ok⟩
theorem leaf_list {xs : List D} (h : ∀ d, d ∈ xs → Leaf d) (l : xs.length ≤ 20) : pln (.list xs) = true ∧ Sml 3 20000 (.list xs) := ⟨plns_of fun d hd => (h d hd).1, (sml_list (l := 20) (fun d hd => (h d hd).2) l).mono⟩
theorem ties_leaf {n : Nat} {ts : List Tie} (hb : Inb n ts) (hn : n ≤ 7) : ∀ d, d ∈ ts.map tieD → Leaf d := fun d hd => by
  obtain ⟨t, ht, rfl⟩ := List.mem_map.mp hd
  exact leaf_tie (hb t ht) hn
theorem isNet_bad {n : Nat} {xs : List D} (h : ∃ d, d ∈ xs ∧ isTieD d (n : Int) = false) : isNet (natD n) (.list xs) = false := by
  obtain ⟨d, hd, hf⟩ := h
  show ((decide ((0 : Int) < (n : Int)) && decide ((n : Int) < 8)) && (decide (xs.length ≤ 16) && xs.all fun x => isTieD x (n : Int))) = false
  have : (xs.all fun x => isTieD x (n : Int)) = false := by
    rw [Bool.eq_false_iff]
    intro z
    have := List.all_eq_true.mp z d hd
    rw [hf] at this
    cases this
  rw [this, Bool.and_false, Bool.and_false]
theorem with_bad {n : Nat} {A B : List Tie} {d : D} (n7 : n ≤ 7) (hA : Inb n A) (hB : Inb n B) (l : A.length + B.length ≤ 18) (hd : Leaf d) (hf : isTieD d (n : Int) = false) : BadN (natD n) (.list (A.map tieD ++ [d] ++ B.map tieD)) := by
  have all : ∀ x, x ∈ A.map tieD ++ [d] ++ B.map tieD → Leaf x := fun x hx => by
    rcases List.mem_append.mp hx with z | z
    · rcases List.mem_append.mp z with y | y
      · exact ties_leaf hA n7 x y
      · rw [List.mem_singleton.mp y]; exact hd
    · exact ties_leaf hB n7 x z
  have ll := leaf_list all (by rw [List.length_append, List.length_append, List.length_map, List.length_map]; simp only [List.length_singleton]; omega)
  exact badn_of (isNet_bad ⟨d, List.mem_append_left _ (List.mem_append_right _ (List.mem_cons_self ..)), hf⟩) (leaf_small (by omega)) ll.1 ll.2
def wayA (e : Nat) : List D := [natD 0, natD 8, .int (-1), .bool true, .none, .str "3", natD (8 + e), .list [natD 3], .tuple [natD 3]]
theorem wayA_ok {e : Nat} (he : e ≤ 10 ^ 20) : ∀ m, m ∈ wayA e → Leaf m ∧ ∀ t, isNet m t = false := fun m hm => by
  have nt : ∀ i : Int, (decide (0 < i) && decide (i < 8)) = false → ∀ t, isNet (.int i) t = false := fun i hi t => by
    cases t with
    | list ts =>
      show ((decide (0 < i) && decide (i < 8)) && _) = false
      rw [hi, Bool.false_and]
    | _ => rfl
  unfold wayA at hm
  simp only [List.mem_cons, List.not_mem_nil, or_false] at hm
  rcases hm with rfl | rfl | rfl | rfl | rfl | rfl | rfl | rfl | rfl
  · exact ⟨leaf_small (by decide), nt _ rfl⟩
  · exact ⟨leaf_small (by decide), nt _ rfl⟩
  · exact ⟨leaf_int (by decide +kernel), nt _ rfl⟩
  · exact ⟨leaf_bool _, fun t => rfl⟩
  · exact ⟨leaf_none, fun t => rfl⟩
  · exact ⟨leaf_str (by decide +kernel) (by decide +kernel), fun t => rfl⟩
  · refine ⟨leaf_nat (Nat.lt_of_le_of_lt (Nat.add_le_add_left he 8) (by decide +kernel)), nt _ ?_⟩
    rw [decide_eq_false (show ¬ ((8 + e : Nat) : Int) < 8 by omega), Bool.and_false]
  · exact ⟨leaf_lst (fun d hd => by rw [List.mem_singleton.mp hd]; exact f_small (i := 3) (by decide)) (by simp), fun t => rfl⟩
  · exact ⟨leaf_tup (fun d hd => by rw [List.mem_singleton.mp hd]; exact f_small (i := 3) (by decide)) (by simp), fun t => rfl⟩
def wayB (ts : List Tie) : List D := [.none, natD 5, .tuple (ts.map tieD), .dict [], .str ""]
theorem wayB_ok {n : Nat} {ts : List Tie} (n7 : n ≤ 7) (hb : Inb n ts) (tl : ts.length ≤ 16) : ∀ t, t ∈ wayB ts → BadN (natD n) t := fun t ht => by
  have hn : Leaf (natD n) := leaf_small (by omega)
  unfold wayB at ht
  simp only [List.mem_cons, List.not_mem_nil, or_false] at ht
  rcases ht with rfl | rfl | rfl | rfl | rfl
  · exact badn_of rfl hn rfl leaf_none.2.mono
  · exact badn_of rfl hn rfl (leaf_small (x := 5) (by decide)).2.mono
  · exact badn_of rfl hn (plns_of fun d hd => (ties_leaf hb n7 d hd).1) (sml_tuple (l := 20) (fun d hd => (ties_leaf hb n7 d hd).2) (by rw [List.length_map]; omega)).mono
  · exact ⟨rfl, rfl, rfl, ok_pair0 (Nat.lt_of_le_of_lt (show ((n : Nat) : Int).natAbs ≤ 7 by omega) (by decide +kernel))⟩
  · exact badn_of rfl hn rfl (leaf_str (x := "") (by decide +kernel) (by decide +kernel)).2.mono
def preSp (ds : List D) : Prop := ∃ (n : Nat) (ts : List Tie) (k c : Nat), ds = [natD n, .list (ts.map tieD), natD k, natD c] ∧ NetOk n ts
def postSp (_ : List D) (out : Out) : Prop := ∃ m t, BadN m t ∧ out = .val (.tuple [m, t])
theorem ok__law_spoilt (T : Tx K mg) : FnOk P w K mg base (L2.CX P w) 2 T.a__law_spoilt T.d__law_spoilt ["_law_many", "_law_ties", "_law_way", "_law_cell"] (spD K T.cl [false, false, false, false] false preSp postSp) := by
  refine fnD T.F__law_spoilt sc__law_spoilt rfl fun cdv A outer s E M B H Q ds hr hp wf ho => ?_
  obtain ⟨n, ts, k, c, rfl, nk⟩ := hp
  refine ⟨_, (pss_cons (ps_if (pt_cmpR (op_eqK K rfl hr.units) (pv 2) pe_int (nomark _))
      (pss_cons (ps_set (i := 4) sc__law_spoilt.nd rfl (Or.inl rfl) (pe_lst (pa_cons pe_int (pa_cons pe_int (pa_cons (pe_un un_neg pe_int) (pa_cons pe_bl (pa_cons pe_non (pa_cons pe_str (pa_cons (pe_op op_addD pe_int (pe_op op_mod (pe_op op_fdivA (pv 3) pe_int) (pe_op op_pow pe_int pe_int))) (pa_cons (pe_lst (pa_cons pe_int pa_nil)) (pa_cons (pe_tup (pa_cons pe_int pa_nil)) pa_nil)))))))))))
      (pss_one (ps_ret (pe_tup (pa_cons (pe_ix (ix_K K rfl) (pv 4) (pe_op op_mod (pv 3) pe_int) (fun _ _ => rfl)) (pa_cons (pe_ix (ix_K K rfl) (pe_lst (pa_cons (pe_lst pa_nil) (pa_cons (pv 1) pa_nil))) (pe_op op_mod (pe_op op_fdivA (pv 3) pe_int) pe_int) (fun _ _ => rfl)) pa_nil)))))) pss_nil)
      (pss_cons (ps_if (pt_cmpR (op_eqK K rfl hr.units) (pv 2) pe_int (nomark _))
      (pss_one (ps_ret (pe_tup (pa_cons (pv 0) (pa_cons (pe_ix (ix_K K rfl) (pe_lst (pa_cons pe_non (pa_cons pe_int (pa_cons (pe_callTy (tuple_K K rfl) (by rfl) T.n_tuple (by decide +kernel) (pa_cons (pv 1) pa_nil)) (pa_cons pe_dnewK (pa_cons pe_str pa_nil)))))) (pe_op op_mod (pv 3) pe_int) (fun _ _ => rfl)) pa_nil))))) pss_nil)
      (pss_cons (ps_if (pt_cmpR (op_eqK K rfl hr.units) (pv 2) pe_int (nomark _))
      (pss_one (ps_ret (pe_tup (pa_cons (pv 0) (pa_cons (pe_op op_mulD (pe_lst (pa_cons (pe_tup (pa_cons pe_int (pa_cons pe_int pa_nil))) pa_nil)) pe_int) pa_nil))))) pss_nil)
      (pss_cons (ps_set (i := 5) sc__law_spoilt.nd rfl (Or.inl rfl) (pe_op op_mod (pe_op op_fdivA (pv 3) pe_int) (pe_op op_addD (pe_callB (len_K K rfl) (by rfl) T.n_len (by decide +kernel) (pa_cons (pv 1) pa_nil)) pe_int)))
      (pss_one (ps_ret (pe_tup (pa_cons (pv 0) (pa_cons (pe_op op_addD (pe_op op_addD (pe_slice (sl_K K rfl) (pv 1) po_none (po_some (pv 5))) (pe_lst (pa_cons (pe_callS (ok__law_bad_tie T) (hr.mono (by decide)) (by rfl) T.g__law_bad_tie T.F__law_bad_tie.kp T.b__law_bad_tie (fun σ => passAt (takes_of rfl rfl rfl rfl) σ) (pa_cons (pv 3) (pa_cons (pv 0) pa_nil))) pa_nil))) (pe_slice (sl_K K rfl) (pv 1) (po_some (pv 5)) po_none)) pa_nil))))))))), ?_⟩
  have n0 := nk.pos
  have n7 := nk.le
  have tl := nk.len
  have tb := nk.inb
  have ret : ∀ m t, BadN m t → OutOk K T.cl M B false H Q E (.val (.tuple [m, t])) := fun m t h => ho _ ⟨m, t, h, rfl⟩
  have hn : Leaf (natD n) := leaf_small (by omega)
  refine run_if (jt_test (jv_eqI (jv_var (d := natD k) rfl rfl) jv_c)) (fun _ => ?_) fun _ => run_next ?_
  · obtain ⟨e, he⟩ : ∃ e, e = c / 18 % 10 ^ 20 := ⟨_, rfl⟩
    have el : e ≤ 10 ^ 20 := by rw [he]; exact Nat.le_of_lt (Nat.mod_lt _ (by decide +kernel))
    refine run_assoc (run_set (n := true) (d := .list (wayA e)) (jn_lst (ds := wayA e) (ja_cons (Jd.int jv_c) (ja_cons (Jd.int jv_c) (ja_cons (Jd.int jv_m1) (ja_cons (Jd.bool jv_c) (ja_cons (Jd.ofV jv_c rfl) (ja_cons (Jd.ofV jv_c rfl) (ja_cons (Jd.int ((jv_add (j := 8) (k := (e : Int)) jv_c ((jv_mod (j := (c : Int) / 18) (k := (10 : Int) ^ (20 : Int).toNat) (jv_div (jv_var rfl rfl) jv_c (by decide) (by decide)) (jv_pow jv_c jv_c ⟨by decide, by decide, by decide⟩) (by decide +kernel)).eqV (by rw [he]; congr 1))).eqV (by congr 1))) (ja_cons (jn_lst (ja_cons (Jd.int jv_c) ja_nil) (by simp)).nD (ja_cons (Jd.uD (ju_tup (ja_cons (Jd.int jv_c) ja_nil) (by simp))) ja_nil))))))))) (by simp [wayA])).nD ?_)
    have k9 : c % 9 < (wayA e).length := Nat.mod_lt _ (by decide)
    have q2 : c / 9 % 2 < ([[], ts] : List (List Tie)).length := Nat.mod_lt _ (by decide)
    obtain ⟨m, hm⟩ : ∃ m, m = (wayA e).getD (c % 9) .none := ⟨_, rfl⟩
    obtain ⟨l, hl⟩ : ∃ l, l = ([[], ts] : List (List Tie)).getD (c / 9 % 2) [] := ⟨_, rfl⟩
    have hm' : m ∈ wayA e := by
      rw [hm, List.getD_eq_getElem?_getD, List.getElem?_eq_getElem k9]
      exact List.getElem_mem _
    have lb : Inb n l ∧ l.length ≤ 16 := by
      rw [hl]
      rcases (show c / 9 % 2 = 0 ∨ c / 9 % 2 = 1 by omega) with z | z <;> rw [z]
      · exact ⟨fun t ht => (nomatch ht), Nat.zero_le _⟩
      · exact ⟨tb, tl⟩
    obtain ⟨h1, h2⟩ := wayA_ok el m hm'
    have ll := leaf_list (ties_leaf lb.1 n7) (by rw [List.length_map]; omega)
    refine run_retSeq (run_ret (n := false) (d := .tuple [m, .list (l.map tieD)]) (Jd.uD (ju_tup (ja_cons ((jd_ixE (enc := id) (xs := wayA e) (c % 9) .none ((js_var rfl).eqS (List.map_id _).symm) ((jv_mod (jv_var rfl rfl) jv_c (by decide)).eqV (by congr 1)) rfl k9).eqD hm.symm).low (ja_cons ((jd_ixE (enc := fun l : List Tie => PyData.list (l.map tieD)) (xs := [[], ts]) (c / 9 % 2) [] (n := false) (jn_lst (ja_cons (jn_lst (n := true) (ds := []) ja_nil (by simp)).nD.low (ja_cons (jd_var rfl) ja_nil)) (by simp)).nS ((jv_mod (j := (c : Int) / 9) (k := 2) (jv_div (jv_var rfl rfl) jv_c (by decide) (by decide)) jv_c (by decide)).eqV (by congr 1)) rfl q2).eqD (by rw [← hl])) ja_nil)) (by simp))) (ret _ _ (badn_of (h2 _) h1 ll.1 ll.2)))
  refine run_if (jt_test (jv_eqI (jv_var (d := natD k) rfl rfl) jv_c)) (fun _ => run_retSeq ?_) fun _ => run_next ?_
  · have k5 : c % 5 < (wayB ts).length := Nat.mod_lt _ (by decide)
    obtain ⟨t, ht⟩ : ∃ t, t = (wayB ts).getD (c % 5) .none := ⟨_, rfl⟩
    have ht' : t ∈ wayB ts := by
      rw [ht, List.getD_eq_getElem?_getD, List.getElem?_eq_getElem k5]
      exact List.getElem_mem _
    exact run_ret (n := false) (d := .tuple [natD n, t]) (Jd.uD (ju_tup (ja_cons (jd_var rfl) (ja_cons ((jd_ixE (enc := id) (xs := wayB ts) (c % 5) .none (n := false) ((jn_lst (ds := wayB ts) (ja_cons (Jd.ofV jv_c rfl) (ja_cons (Jd.int jv_c) (ja_cons (Jd.uD (ju_tuple (js_var rfl))) (ja_cons jd_dict0 (ja_cons (Jd.ofV jv_c rfl) ja_nil))))) (by simp [wayB])).nS.eqS (List.map_id _).symm) ((jv_mod (jv_var rfl rfl) jv_c (by decide)).eqV (by congr 1)) rfl k5).eqD ht.symm) ja_nil)) (by simp))) (ret _ _ (wayB_ok n7 tb tl t ht'))
  refine run_if (jt_test (jv_eqI (jv_var (d := natD k) rfl rfl) jv_c)) (fun _ => run_retSeq ?_) fun _ => run_next ?_
  · have rp := jn_rep (K := K) (env := argEnv [false, false, false, false] [natD n, .list (ts.map tieD), natD k, natD c] 6) (n := true) (k := 17) (jn_lst (ds := [tieD (0, 0)]) (ja_cons (Jd.uD (ju_tup (ja_cons (Jd.int (j := 0) jv_c) (ja_cons (Jd.int (j := 0) jv_c) ja_nil)) (by simp))) ja_nil) (by simp)).nS jv_c (by decide) (by simp) (by decide)
    rw [rep_flat] at rp
    have all : ∀ x, x ∈ List.replicate (17 : Int).toNat (tieD (0, 0)) → Leaf x := fun x hx => by
      rw [List.eq_of_mem_replicate hx]
      exact leaf_tie (t := (0, 0)) (n := n) ⟨n0, n0⟩ n7
    have ll := leaf_list all (by rw [List.length_replicate]; decide)
    refine run_ret (n := false) (d := .tuple [natD n, .list (List.replicate (17 : Int).toNat (tieD (0, 0)))]) (Jd.uD (ju_tup (ja_cons (jd_var rfl) (ja_cons rp.nD.low ja_nil)) (by simp))) (ret _ _ (badn_of ?_ hn ll.1 ll.2))
    show ((decide ((0 : Int) < (n : Int)) && decide ((n : Int) < 8)) && (decide ((List.replicate (17 : Int).toNat (tieD (0, 0))).length ≤ 16) && _)) = false
    rw [List.length_replicate, decide_eq_false (show ¬ (17 : Int).toNat ≤ 16 by decide), Bool.false_and, Bool.and_false]
  obtain ⟨j, hj⟩ : ∃ j, j = c / 14 % (ts.length + 1) := ⟨_, rfl⟩
  refine run_setI (z := (j : Int)) ((jv_mod (j := (c : Int) / 14) (k := ((ts.length + 1 : Nat) : Int)) (jv_div (jv_var rfl rfl) jv_c (by decide) (by decide)) ((jv_add (jv_len (js_var rfl)) jv_c).eqV (by rw [List.length_map]; congr 1)) (by omega)).eqV (by rw [hj]; congr 1)) ?_
  have jl : j ≤ ts.length := by have := Nat.mod_lt (c / 14) (show 0 < ts.length + 1 by omega); omega
  have bt := bt_ok (c := c) n7
  refine run_ret (n := false) (d := .tuple [natD n, .list ((ts.take j).map tieD ++ [btD c n] ++ (ts.drop j).map tieD)]) (Jd.uD (ju_tup (ja_cons (jd_var rfl) (ja_cons (jn_cat (jn_cat (ds := (ts.take j).map tieD) ((jn_slice (js_var rfl) jo_none (jo_some (jv_var rfl rfl))).eqN (by rw [cutG_map]; congr 1; exact cutG_to ts j)).nS (jn_lst (ja_cons (jd_callS (jf_cons (jd_var rfl) (jf_cons (jd_var rfl) jf_nil)) ⟨c, n, rfl, n7⟩ fun out po => .inl (bt_inj po)).low ja_nil) (by simp)).nS ?_).nS (es := (ts.drop j).map tieD) ((jn_slice (js_var rfl) (jo_some (jv_var rfl rfl)) jo_none).eqN (by rw [cutG_map]; congr 1; exact cutG_from ts j)).nS ?_).nD ja_nil)) (by simp))) (ret _ _ (with_bad n7 (fun t ht => tb t (List.mem_of_mem_take ht)) (fun t ht => tb t (List.mem_of_mem_drop ht)) (by rw [List.length_take, List.length_drop]; omega) bt.1 bt.2))
  · rw [List.length_map, List.length_take]; simp; omega
  · rw [List.length_append, List.length_map, List.length_map, List.length_take, List.length_drop]; simp; omega

end
end Tr

namespace Tr
open PySem L2 DL TT
local macro_rules | `(tactic| walk_at "jv") => `(tactic| first
  | exact jv_c
  | exact jv_var rfl rfl
  | ((with_reducible refine' jv_add ?a ?b); (case a => walk_at "jv"); (case b => walk_at "jv"))
  | ((with_reducible refine' jv_sub ?a ?b); (case a => walk_at "jv"); (case b => walk_at "jv"))
  | ((with_reducible refine' jv_lt ?a ?b); (case a => walk_at "jv"); (case b => walk_at "jv"))
  | ((with_reducible refine' jv_le ?a ?b); (case a => walk_at "jv"); (case b => walk_at "jv"))
  | ((with_reducible refine' jv_gt ?a ?b); (case a => walk_at "jv"); (case b => walk_at "jv"))
  | ((with_reducible refine' jv_ge ?a ?b); (case a => walk_at "jv"); (case b => walk_at "jv"))
  | ((with_reducible refine' jv_eqI ?a ?b); (case a => walk_at "jv"); (case b => walk_at "jv"))
  | ((with_reducible refine' jv_neI ?a ?b); (case a => walk_at "jv"); (case b => walk_at "jv"))
  | ((with_reducible refine' jv_chain ?a ?b ?c); (case a => walk_at "jv"); (case b => walk_at "jv"); (case c => walk_at "jv"))
  | ((with_reducible refine' jv_not ?a); (case a => walk_at "jv"))
  | ((with_reducible refine' jv_len ?a); (case a => walk_at "js"))
  | ((with_reducible refine' jv_lenU ?a); (case a => walk_at "ju"))
  | ((with_reducible refine' jv_min2 ?a ?b); (case a => walk_at "jv"); (case b => walk_at "jv"))
  | ((with_reducible refine' jv_max2 ?a ?b); (case a => walk_at "jv"); (case b => walk_at "jv"))
  | assumption)
local macro_rules | `(tactic| walk_at "js") => `(tactic| first
  | exact js_var rfl
  | exact js_own rfl
  | exact Jd.lowS (js_var rfl)
  | assumption
  | exact Jd.nS (by assumption))
local macro_rules | `(tactic| walk_at "ju") => `(tactic| first
  | exact ju_var rfl
  | assumption)
local macro_rules | `(tactic| walk_at "jd") => `(tactic| first
  | exact jd_var rfl
  | exact Jd.low (jd_var rfl)
  | exact Jd.low (by assumption)
  | assumption
  | ((refine' Jd.int (Jd.eqV ?a ?b)); (case a => walk_at "jv"); (case b => first | rfl | (congr 1; omega)))
  | ((refine' Jd.bool ?a); (case a => walk_at "jv")))
local macro_rules | `(tactic| walk_at "jf") => `(tactic| first
  | exact jf_nil
  | ((with_reducible refine' jf_cons ?a ?b); (case a => walk_at "jd"); (case b => walk_at "jf")))
local macro_rules | `(tactic| walk_at "less") => `(tactic| first
  | exact LessI.nil
  | (refine LessI.keep ?_; walk_at "less")
  | (refine LessI.drop ?_; walk_at "less"))
local macro_rules | `(tactic| walk_at "loop") => `(tactic| (refine' run_loopW ?x ?y; (case x => exact rfl); (case y => walk_at "less")))

section
variable {P : Program} {w : World} {K : PySem.W.Frag} {mg : Str → Option Value} {base : Heap}

def preMarks (ds : List D) : Prop := ∃ (n : Nat) (ts : List Tie), ds = [natD n, .list (ts.map tieD)] ∧ Inb n ts ∧ n ≤ 100 ∧ ts.length ≤ 1000
def postMarks (ds : List D) (out : Out) : Prop := ∃ (n : Nat) (ts : List Tie), ds = [natD n, .list (ts.map tieD)] ∧ Inb n ts ∧ out = .val (.list ((marks n ts).map natD))
theorem ok_marks_of (T : Tx K mg) : FnOk P w K mg base (L2.CX P w) 1 T.a_marks_of T.d_marks_of ["many", "ties"] (spD K T.cl [false, false] true preMarks postMarks) := by
  refine fnD T.F_marks_of sc_marks_of rfl fun cdv A outer s E M B H Q ds hr hp wf ho => ?_
  obtain ⟨n, ts, rfl, hb, hn, hz⟩ := hp
  refine ⟨_, (pss_cons (ps_set (i := 2) sc_marks_of.nd rfl (Or.inl rfl) (pe_listRg rfl (by rfl) T.n_list (prg_1 (by rfl) T.n_range (pv 0))))
      (pss_cons (PS.nox (ps_for PassesOwn.never rfl (list_pi K rfl (pv 1)) (pgt_K K (n := 2) rfl rfl (pgs_cons (pg_name (i := 3) sc_marks_of.nd rfl (Or.inl rfl)) (pgs_cons (pg_name (i := 4) sc_marks_of.nd rfl (Or.inl rfl)) pgs_nil)))
      (pss_cons (ps_set (i := 5) sc_marks_of.nd rfl (Or.inr rfl) (pe_callB (call_min2 rfl) (by rfl) T.n_min (by decide +kernel) (pa_cons (pe_ix (ix_K K rfl) (pv 2) (pv 3) (fun _ _ => rfl)) (pa_cons (pe_ix (ix_K K rfl) (pv 2) (pv 4) (fun _ _ => rfl)) pa_nil))))
      (pss_cons (ps_set (i := 6) sc_marks_of.nd rfl (Or.inr rfl) (pe_callB (call_max2 rfl) (by rfl) T.n_max (by decide +kernel) (pa_cons (pe_ix (ix_K K rfl) (pv 2) (pv 3) (fun _ _ => rfl)) (pa_cons (pe_ix (ix_K K rfl) (pv 2) (pv 4) (fun _ _ => rfl)) pa_nil))))
      (pss_one (ps_setLc (i := 2) (own := [("mark", 7)]) rfl sc_marks_of.nd rfl rfl (sw_true rfl rfl rfl (by decide +kernel)) (list_pi K rfl (pv 2)) (blkOk_by (own := [("mark", 7)]) (N := ["many", "ties", "marks", "one", "other", "low", "high", "mark"]) (sc := defScope s_marks_of) (by decide +kernel)) (fun _ _ _ _ _ => (pg_name (i := 7) sc_marks_of.nd rfl (Or.inl rfl))) (fun _ _ _ _ _ => pts_nil) (fun _ _ _ _ _ => (pe_ifExp (pt_cmpR (op_eqK K rfl hr.units) (pv 7) (pv 6) (nomark _)) (pv 5) (pv 7)))))))))
      (pss_one (ps_ret (pv 2))))), ?_⟩
  have ret := ho _ ⟨n, ts, rfl, hb, rfl⟩
  refine run_set (n := true) ((jn_range (jv_var rfl rfl) (by omega) (by omega)).eqN (es := (marks n (ts.take 0)).map natD) (by rw [Int.toNat_natCast]; rfl)).nD ?_
  refine run_forL (enc := tieD) ts (fun k env => env = [.val false (natD n), .val false (.list (ts.map tieD)), .val true (.list ((marks n (ts.take k)).map natD)), .un, .un, .un, .un, .un]) (jd_var rfl) rfl (fun hb' k x env1 hx e1 => ?_) (fun env1 e1 => ?_)
  · subst e1
    have hx' := hb x (List.mem_of_getElem? hx)
    refine ⟨_, _, tg_two, ?_⟩
    have len := marks_length n (ts.take k)
    have g1 : ∀ env, env[2]? = some (.val true (.list ((marks n (ts.take k)).map natD))) → env[3]? = some (.val false (natD x.1)) → JV K (tOp (rIx K) (tVar 2) (tVar 3)) env (.int (((marks n (ts.take k)).getD x.1 0 : Nat) : Int)) := fun env a b => (jd_ixE x.1 0 (js_var a) (jv_var b rfl) rfl (by rw [len]; exact hx'.1)).toV rfl
    have g2 : ∀ env, env[2]? = some (.val true (.list ((marks n (ts.take k)).map natD))) → env[4]? = some (.val false (natD x.2)) → JV K (tOp (rIx K) (tVar 2) (tVar 4)) env (.int (((marks n (ts.take k)).getD x.2 0 : Nat) : Int)) := fun env a b => (jd_ixE x.2 0 (js_var a) (jv_var b rfl) rfl (by rw [len]; exact hx'.2)).toV rfl
    refine run_setI (z := ((min ((marks n (ts.take k)).getD x.1 0) ((marks n (ts.take k)).getD x.2 0) : Nat) : Int)) ((jv_min2 (g1 _ rfl rfl) (g2 _ rfl rfl)).eqV (by congr 1; omega)) ?_
    refine run_setI (z := ((max ((marks n (ts.take k)).getD x.1 0) ((marks n (ts.take k)).getD x.2 0) : Nat) : Int)) ((jv_max2 (g1 _ rfl rfl) (g2 _ rfl rfl)).eqV (by congr 1; omega)) ?_
    refine run_one (run_set (n := true) (d := .list ((marks n (ts.take (k + 1))).map natD)) ?_ ?_)
    · rw [marks_take hx]
      refine ((jn_mapL (enc := natD) (marks n (ts.take k)) (fun v => natD (if v = max ((marks n (ts.take k)).getD x.1 0) ((marks n (ts.take k)).getD x.2 0) then min ((marks n (ts.take k)).getD x.1 0) ((marks n (ts.take k)).getD x.2 0) else v)) (js_var rfl) (by rw [len]; omega) fun v _ => ⟨_, tg_name, ?_⟩).eqN ?_).nD
      · refine Jd.int ((jv_if (p := 0) (q := 0) (b := decide (((v : Nat) : Int) = ((max ((marks n (ts.take k)).getD x.1 0) ((marks n (ts.take k)).getD x.2 0) : Nat) : Int))) (jt_test (by walk_at "jv")) (fun _ => jv_var rfl rfl) (fun _ => jv_var rfl rfl)).eqV ?_)
        by_cases c : v = max ((marks n (ts.take k)).getD x.1 0) ((marks n (ts.take k)).getD x.2 0)
        · rw [if_pos c, decide_eq_true (by rw [c]), if_pos rfl]
        · rw [if_neg c, decide_eq_false (by omega), if_neg Bool.false_ne_true]
      · unfold mstep
        rw [List.map_map]
        rfl
    · walk_at "loop"
  · subst e1
    rw [List.take_length]
    exact run_ret (jd_var rfl) ret
theorem jd_marksS {cl : XC → Addr} {E' : L2.St → XK} {t1 t2 : TE} {env : List Sl} {n : Nat} {F : List Tie} (hb : Inb n F) (hn : n ≤ 100) (hl : F.length ≤ 1000) (h1 : JD K t1 env false (natD n)) (h2 : JD K t2 env false (.list (F.map tieD))) :
    JD K (tCallS (spD K cl [false, false] true preMarks postMarks) E' (tCons t1 (tCons t2 tNil))) env true (.list ((marks n F).map natD)) :=
  jd_callS (jf_cons h1 (jf_cons h2 jf_nil)) ⟨n, F, rfl, hb, hn, hl⟩ fun out ⟨n', ts', e, _, po⟩ => by
    obtain ⟨e1, e2⟩ := one_cons e
    rw [natD_inj e1, ties_inj (PyData.list.inj (one_cons e2).1)]
    exact .inl po
theorem jn_names {env : List Sl} {i : Nat} {n : Nat} {F : List Tie} {w : World} (hb : Inb n F) (hn : n ≤ 7) (h : env[i]? = some (.val true (.list ((marks n F).map natD)))) :
    JN K (tCB (rSortedSet w) (tCons (tCB (rSetI K w) (tCons (tVar i) tNil)) tNil)) env true ((roots n F).map natD) := by
  have q := jn_sortSet (K := K) (w := w) (m := true) (ns := (marks n F).map fun p => ((p : Nat) : Int)) (ms := (roots n F).map fun p => ((p : Nat) : Int)) ((js_var h).eqS (by rw [List.map_map]; rfl)) (by rw [List.length_map, (marks_ok hb).len]; omega) (by
    rw [List.pairwise_map]
    exact roots_rise.imp fun h => by omega) (fun k => by
    rw [List.mem_map, List.mem_map]
    exact ⟨fun ⟨x, h1, h2⟩ => ⟨x, (mem_marks hb x).mp h1, h2⟩, fun ⟨x, h1, h2⟩ => ⟨x, (mem_marks hb x).mpr h1, h2⟩⟩)
  rw [List.map_map] at q
  exact q

end
end Tr

namespace Tr
open PySem L2 DL TT
local macro_rules | `(tactic| walk_at "jv") => `(tactic| first
  | exact jv_c
  | exact jv_var rfl rfl
  | ((with_reducible refine' jv_add ?a ?b); (case a => walk_at "jv"); (case b => walk_at "jv"))
  | ((with_reducible refine' jv_sub ?a ?b); (case a => walk_at "jv"); (case b => walk_at "jv"))
  | ((with_reducible refine' jv_lt ?a ?b); (case a => walk_at "jv"); (case b => walk_at "jv"))
  | ((with_reducible refine' jv_le ?a ?b); (case a => walk_at "jv"); (case b => walk_at "jv"))
  | ((with_reducible refine' jv_gt ?a ?b); (case a => walk_at "jv"); (case b => walk_at "jv"))
  | ((with_reducible refine' jv_ge ?a ?b); (case a => walk_at "jv"); (case b => walk_at "jv"))
  | ((with_reducible refine' jv_eqI ?a ?b); (case a => walk_at "jv"); (case b => walk_at "jv"))
  | ((with_reducible refine' jv_neI ?a ?b); (case a => walk_at "jv"); (case b => walk_at "jv"))
  | ((with_reducible refine' jv_chain ?a ?b ?c); (case a => walk_at "jv"); (case b => walk_at "jv"); (case c => walk_at "jv"))
  | ((with_reducible refine' jv_not ?a); (case a => walk_at "jv"))
  | ((with_reducible refine' jv_len ?a); (case a => walk_at "js"))
  | ((with_reducible refine' jv_lenU ?a); (case a => walk_at "ju"))
  | ((with_reducible refine' jv_min2 ?a ?b); (case a => walk_at "jv"); (case b => walk_at "jv"))
  | ((with_reducible refine' jv_max2 ?a ?b); (case a => walk_at "jv"); (case b => walk_at "jv"))
  | assumption)
local macro_rules | `(tactic| walk_at "js") => `(tactic| first
  | exact js_var rfl
  | exact js_own rfl
  | exact Jd.lowS (js_var rfl)
  | assumption
  | exact Jd.nS (by assumption))
local macro_rules | `(tactic| walk_at "ju") => `(tactic| first
  | exact ju_var rfl
  | assumption)
local macro_rules | `(tactic| walk_at "jd") => `(tactic| first
  | exact jd_var rfl
  | exact Jd.low (jd_var rfl)
  | exact Jd.low (by assumption)
  | assumption
  | ((refine' Jd.int (Jd.eqV ?a ?b)); (case a => walk_at "jv"); (case b => first | rfl | (congr 1; omega)))
  | ((refine' Jd.bool ?a); (case a => walk_at "jv")))
local macro_rules | `(tactic| walk_at "jf") => `(tactic| first
  | exact jf_nil
  | ((with_reducible refine' jf_cons ?a ?b); (case a => walk_at "jd"); (case b => walk_at "jf")))
local macro_rules | `(tactic| walk_at "less") => `(tactic| first
  | exact LessI.nil
  | (refine LessI.keep ?_; walk_at "less")
  | (refine LessI.drop ?_; walk_at "less"))
local macro_rules | `(tactic| walk_at "loop") => `(tactic| (refine' run_loopW ?x ?y; (case x => exact rfl); (case y => walk_at "less")))

section
variable {P : Program} {w : World} {K : PySem.W.Frag} {mg : Str → Option Value} {base : Heap}

def outParts (n : Nat) (ts : List Tie) (out : Out) : Prop := out = .new (((roots n ts).map (reachL n ts)).map numsD)
theorem ok_parts_of (T : Tx K mg) : FnOk P w K mg base (L2.CX P w) 4 T.a_parts_of T.d_parts_of ["many", "ties"] (spD K T.cl [false, false] true preNet (postOr outParts)) := by
  refine fnD T.F_parts_of sc_parts_of rfl fun cdv A outer s E M B H Q ds hr hp wf ho => ?_
  obtain ⟨m, t, rfl, hm, ht⟩ := hp
  refine ⟨_, (pss_cons (ps_expr (pe_callS (ok_need_net T) (hr.mono (by decide)) (by rfl) T.g_need_net T.F_need_net.kp T.b_need_net (fun σ => passAt (takes_of rfl rfl rfl rfl) σ) (pa_cons (pv 0) (pa_cons (pv 1) pa_nil))))
      (pss_cons (ps_set (i := 2) sc_parts_of.nd rfl (Or.inr rfl) (pe_callS (ok_marks_of T) (hr.mono (by decide)) (by rfl) T.g_marks_of T.F_marks_of.kp T.b_marks_of (fun σ => passAt (takes_of rfl rfl rfl rfl) σ) (pa_cons (pv 0) (pa_cons (pv 1) pa_nil))))
      (pss_one (ps_ret (pe_lc (own := [("least", 4)]) rfl sc_parts_of.nd (list_pi K rfl (pe_callB (sortS_K w rfl rfl) (by rfl) T.n_sorted (by decide +kernel) (pa_cons (pe_callTy (set_K K w rfl rfl rfl) (by rfl) T.n_set (by decide +kernel) (pa_cons (pv 2) pa_nil)) pa_nil))) (blkOk_by (own := [("least", 4)]) (N := ["many", "ties", "marks", "place", "least"]) (sc := defScope s_parts_of) (by decide +kernel)) (fun _ _ _ _ _ => (pg_name (i := 4) sc_parts_of.nd rfl (Or.inr rfl))) (fun _ _ _ _ _ => pts_nil) (fun _ _ _ _ _ => (pe_lc (own := [("place", 3)]) rfl sc_parts_of.nd (pi_range1 (by rfl) T.n_range (pa_cons (pv 0) pa_nil)) (show BlkOk ["many", "ties", "marks", "place", "least"] { kind := .function, names := [(".0", .local), ("least", .cell), ("range", .globalImplicit), ("many", .cell), ("marks", .cell)], isGenerator := false, isCoroutine := false } _ _ from blkOk_by (by decide +kernel)) (fun _ _ _ _ _ => (pg_name (i := 3) sc_parts_of.nd rfl (Or.inl rfl))) (fun _ _ _ _ _ => (pts_one (pt_cmpR (op_eqK K rfl hr.units) (pe_ix (ix_K K rfl) (pv 2) (pv 3) (fun _ _ => rfl)) (pv 4) (nomark _)))) (fun _ _ _ _ _ => (pv 3))))))))), ?_⟩
  cases hn : isNet m t with
  | false =>
    exact run_dropE (er_call (by walk_at "jf") ⟨m, t, rfl, hm, ht⟩ fun out po => need_bad hn po) fun H' s => ho _ ⟨m, t, rfl, .inl ⟨hn, rfl⟩⟩ H' s
  | true =>
    obtain ⟨n, ts, rfl, rfl, nk⟩ := isNet_inv hn
    have l1 := nk.le
    have l2 := nk.len
    have tb := nk.inb
    refine run_drop (jd_callS (d := .none) (by walk_at "jf") ⟨_, _, rfl, hm, ht⟩ fun out po => .inl (need_ok nk po)) ?_
    refine run_set (n := true) (jd_marksS tb (by omega) (by omega) (jd_var rfl) (jd_var rfl)) ?_
    have rl : (roots n ts).length ≤ n := by
      have := List.length_filter_le (fun a => decide (mk n ts a = a)) (List.range n)
      rw [List.length_range] at this
      exact this
    refine run_retN ((jn_mapL (enc := natD) (n0 := true) (n := true) (roots n ts) (fun r => numsD (reachL n ts r)) (jn_names tb l1 rfl).nS (by omega) fun r hr => ⟨_, tg_name, ?_⟩).eqN (by rw [List.map_map]; rfl)) (ho _ ⟨_, _, rfl, .inr ⟨n, ts, rfl, rfl, nk, rfl⟩⟩)
    obtain ⟨r1, r2⟩ := mem_roots.mp hr
    refine ((jn_lcR (k := (n : Int)) (fun p => decide (mk n ts p = mk n ts r)) natD (jv_var rfl rfl) (by omega) (by omega) fun p hp => ⟨_, tg_name, (jt_test (jv_eqI (j := (mk n ts p : Int)) (k := (r : Int)) ((jd_ixE (enc := natD) p 0 (js_var rfl) (jv_var rfl rfl) rfl (by rw [(marks_ok tb).len]; omega)).toV rfl) (jv_var rfl rfl))).to ?_, fun _ => jd_var rfl⟩).eqN ?_).nD
    · rw [r2, Bool.eq_iff_iff, decide_eq_true_iff, decide_eq_true_iff]
      omega
    · rw [Int.toNat_natCast]
      rfl

end
end Tr

namespace Tr
open PySem L2 DL TT
local macro_rules | `(tactic| walk_at "jv") => `(tactic| first
  | exact jv_c
  | exact jv_var rfl rfl
  | ((with_reducible refine' jv_add ?a ?b); (case a => walk_at "jv"); (case b => walk_at "jv"))
  | ((with_reducible refine' jv_sub ?a ?b); (case a => walk_at "jv"); (case b => walk_at "jv"))
  | ((with_reducible refine' jv_lt ?a ?b); (case a => walk_at "jv"); (case b => walk_at "jv"))
  | ((with_reducible refine' jv_le ?a ?b); (case a => walk_at "jv"); (case b => walk_at "jv"))
  | ((with_reducible refine' jv_gt ?a ?b); (case a => walk_at "jv"); (case b => walk_at "jv"))
  | ((with_reducible refine' jv_ge ?a ?b); (case a => walk_at "jv"); (case b => walk_at "jv"))
  | ((with_reducible refine' jv_eqI ?a ?b); (case a => walk_at "jv"); (case b => walk_at "jv"))
  | ((with_reducible refine' jv_neI ?a ?b); (case a => walk_at "jv"); (case b => walk_at "jv"))
  | ((with_reducible refine' jv_chain ?a ?b ?c); (case a => walk_at "jv"); (case b => walk_at "jv"); (case c => walk_at "jv"))
  | ((with_reducible refine' jv_not ?a); (case a => walk_at "jv"))
  | ((with_reducible refine' jv_len ?a); (case a => walk_at "js"))
  | ((with_reducible refine' jv_lenU ?a); (case a => walk_at "ju"))
  | ((with_reducible refine' jv_min2 ?a ?b); (case a => walk_at "jv"); (case b => walk_at "jv"))
  | ((with_reducible refine' jv_max2 ?a ?b); (case a => walk_at "jv"); (case b => walk_at "jv"))
  | assumption)
local macro_rules | `(tactic| walk_at "js") => `(tactic| first
  | exact js_var rfl
  | exact js_own rfl
  | exact Jd.lowS (js_var rfl)
  | assumption
  | exact Jd.nS (by assumption))
local macro_rules | `(tactic| walk_at "ju") => `(tactic| first
  | exact ju_var rfl
  | assumption)
local macro_rules | `(tactic| walk_at "jd") => `(tactic| first
  | exact jd_var rfl
  | exact Jd.low (jd_var rfl)
  | exact Jd.low (by assumption)
  | assumption
  | ((refine' Jd.int (Jd.eqV ?a ?b)); (case a => walk_at "jv"); (case b => first | rfl | (congr 1; omega)))
  | ((refine' Jd.bool ?a); (case a => walk_at "jv")))
local macro_rules | `(tactic| walk_at "jf") => `(tactic| first
  | exact jf_nil
  | ((with_reducible refine' jf_cons ?a ?b); (case a => walk_at "jd"); (case b => walk_at "jf")))
local macro_rules | `(tactic| walk_at "less") => `(tactic| first
  | exact LessI.nil
  | (refine LessI.keep ?_; walk_at "less")
  | (refine LessI.drop ?_; walk_at "less"))
local macro_rules | `(tactic| walk_at "loop") => `(tactic| (refine' run_loopW ?x ?y; (case x => exact rfl); (case y => walk_at "less")))

section
variable {P : Program} {w : World} {K : PySem.W.Frag} {mg : Str → Option Value} {base : Heap}

def outHangs (n : Nat) (ts : List Tie) (out : Out) : Prop := out = .val (.bool (connP n ts))
theorem ok_hangs (T : Tx K mg) : FnOk P w K mg base (L2.CX P w) 5 T.a_hangs T.d_hangs ["many", "ties"] (spD K T.cl [false, false] true preNet (postOr outHangs)) := by
  refine fnD T.F_hangs sc_hangs rfl fun cdv A outer s E M B H Q ds hr hp wf ho => ?_
  obtain ⟨m, t, rfl, hm, ht⟩ := hp
  refine ⟨_, (pss_one (ps_ret (pe_cmpR (op_eqK K rfl hr.units) (pe_callB (len_K K rfl) (by rfl) T.n_len (by decide +kernel) (pa_cons (pe_callS (ok_parts_of T) (hr.mono (by decide)) (by rfl) T.g_parts_of T.F_parts_of.kp T.b_parts_of (fun σ => passAt (takes_of rfl rfl rfl rfl) σ) (pa_cons (pv 0) (pa_cons (pv 1) pa_nil))) pa_nil)) pe_int (nomark _)))), ?_⟩
  cases hn : isNet m t with
  | false =>
    exact run_retE (er_op (er_cb (er_first (er_call (by walk_at "jf") ⟨m, t, rfl, hm, ht⟩ fun out po => postOr_bad hn po)))) fun H' s => ho _ ⟨m, t, rfl, .inl ⟨hn, rfl⟩⟩ H' s
  | true =>
    obtain ⟨n, ts, rfl, rfl, nk⟩ := isNet_inv hn
    refine run_retV (v := .bl (connP n ts)) (n := true) (d := .bool (connP n ts)) ((jv_eqI (jv_len (jn_callS (jf_cons (jd_var rfl) (jf_cons (jd_var rfl) jf_nil)) ⟨_, _, rfl, hm, ht⟩ fun out po => postOr_net nk po).nS) jv_c).eqV ?_) rfl (ho _ ⟨_, _, rfl, .inr ⟨n, ts, rfl, rfl, nk, rfl⟩⟩)
    rw [← roots_len nk.inb nk.pos, List.length_map, List.length_map]
    congr 1
    rw [Bool.eq_iff_iff, decide_eq_true_iff, decide_eq_true_iff]
    omega
theorem jv_hangsC {cl : XC → Addr} {t1 t2 : TE} {env : List Sl} {n : Nat} {ts : List Tie} (nk : NetOk n ts) (h1 : JD K t1 env false (natD n)) (h2 : JD K t2 env false (.list (ts.map tieD))) :
    JV K (tCall (spD K cl [false, false] true preNet (postOr outHangs)) [] E0 (tCons t1 (tCons t2 tNil))) env (.bl (connP n ts)) :=
  jv_call (d := .bool (connP n ts)) (jf_cons h1 (jf_cons h2 jf_nil)) (preNet_of n ts) (fun out po => postOr_net nk po) rfl
theorem jv_hangsS {cl : XC → Addr} {E' : L2.St → XK} {t1 t2 : TE} {env : List Sl} {n : Nat} {ts : List Tie} (nk : NetOk n ts) (h1 : JD K t1 env false (natD n)) (h2 : JD K t2 env false (.list (ts.map tieD))) :
    JV K (tCallS (spD K cl [false, false] true preNet (postOr outHangs)) E' (tCons t1 (tCons t2 tNil))) env (.bl (connP n ts)) :=
  jv_callS (d := .bool (connP n ts)) (jf_cons h1 (jf_cons h2 jf_nil)) (preNet_of n ts) (fun out po => postOr_net nk po) rfl

end
end Tr

namespace Tr
open PySem L2 DL TT
local macro_rules | `(tactic| walk_at "jv") => `(tactic| first
  | exact jv_c
  | exact jv_var rfl rfl
  | ((with_reducible refine' jv_add ?a ?b); (case a => walk_at "jv"); (case b => walk_at "jv"))
  | ((with_reducible refine' jv_sub ?a ?b); (case a => walk_at "jv"); (case b => walk_at "jv"))
  | ((with_reducible refine' jv_lt ?a ?b); (case a => walk_at "jv"); (case b => walk_at "jv"))
  | ((with_reducible refine' jv_le ?a ?b); (case a => walk_at "jv"); (case b => walk_at "jv"))
  | ((with_reducible refine' jv_gt ?a ?b); (case a => walk_at "jv"); (case b => walk_at "jv"))
  | ((with_reducible refine' jv_ge ?a ?b); (case a => walk_at "jv"); (case b => walk_at "jv"))
  | ((with_reducible refine' jv_eqI ?a ?b); (case a => walk_at "jv"); (case b => walk_at "jv"))
  | ((with_reducible refine' jv_neI ?a ?b); (case a => walk_at "jv"); (case b => walk_at "jv"))
  | ((with_reducible refine' jv_chain ?a ?b ?c); (case a => walk_at "jv"); (case b => walk_at "jv"); (case c => walk_at "jv"))
  | ((with_reducible refine' jv_not ?a); (case a => walk_at "jv"))
  | ((with_reducible refine' jv_len ?a); (case a => walk_at "js"))
  | ((with_reducible refine' jv_lenU ?a); (case a => walk_at "ju"))
  | ((with_reducible refine' jv_min2 ?a ?b); (case a => walk_at "jv"); (case b => walk_at "jv"))
  | ((with_reducible refine' jv_max2 ?a ?b); (case a => walk_at "jv"); (case b => walk_at "jv"))
  | assumption)
local macro_rules | `(tactic| walk_at "js") => `(tactic| first
  | exact js_var rfl
  | exact js_own rfl
  | exact Jd.lowS (js_var rfl)
  | assumption
  | exact Jd.nS (by assumption))
local macro_rules | `(tactic| walk_at "ju") => `(tactic| first
  | exact ju_var rfl
  | assumption)
local macro_rules | `(tactic| walk_at "jd") => `(tactic| first
  | exact jd_var rfl
  | exact Jd.low (jd_var rfl)
  | exact Jd.low (by assumption)
  | assumption
  | ((refine' Jd.int (Jd.eqV ?a ?b)); (case a => walk_at "jv"); (case b => first | rfl | (congr 1; omega)))
  | ((refine' Jd.bool ?a); (case a => walk_at "jv")))
local macro_rules | `(tactic| walk_at "jf") => `(tactic| first
  | exact jf_nil
  | ((with_reducible refine' jf_cons ?a ?b); (case a => walk_at "jd"); (case b => walk_at "jf")))
local macro_rules | `(tactic| walk_at "less") => `(tactic| first
  | exact LessI.nil
  | (refine LessI.keep ?_; walk_at "less")
  | (refine LessI.drop ?_; walk_at "less"))
local macro_rules | `(tactic| walk_at "loop") => `(tactic| (refine' run_loopW ?x ?y; (case x => exact rfl); (case y => walk_at "less")))

section
variable {P : Program} {w : World} {K : PySem.W.Frag} {mg : Str → Option Value} {base : Heap}

def preNtie (ds : List D) : Prop := ∃ (xs : List D) (d : D), ds = [.list xs, d] ∧ pln d = true
def postNtie (ds : List D) (out : Out) : Prop := ∃ (xs : List D) (d : D), ds = [.list xs, d] ∧ out = if isBelow d xs.length = true then .val .none else .err .tie
theorem ok_need_tie (T : Tx K mg) : FnOk P w K mg base (L2.CX P w) 2 T.a_need_tie T.d_need_tie ["ties", "tie"] (spD K T.cl [false, false] true preNtie postNtie) := by
  refine fnD T.F_need_tie sc_need_tie rfl fun cdv A outer s E M B H Q ds hr hp wf ho => ?_
  obtain ⟨xs, d, rfl, hd⟩ := hp
  refine ⟨_, (pss_one (ps_if (pt_not (pt_val (pe_callS (ok_is_below T) (hr.mono (by decide)) (by rfl) T.g_is_below T.F_is_below.kp T.b_is_below (fun σ => passAt (takes_of rfl rfl rfl rfl) σ) (pa_cons (pv 1) (pa_cons (pe_callB (len_K K rfl) (by rfl) T.n_len (by decide +kernel) (pa_cons (pv 0) pa_nil)) pa_nil)))))
      (pss_one (ps_raise rfl (takes_of rfl rfl rfl rfl) (pmk_own PySem.F.excBase_ValueError T.x_BadTie T.gC_BadTie T.kC_BadTie (raises_own T.bC_BadTie T.tC_BadTie) (by rfl)))) pss_nil)), ?_⟩
  have ho : OutOk K T.cl M B true H Q E (if isBelow d xs.length = true then .val .none else .err .tie) := ho _ ⟨xs, d, rfl, rfl⟩
  have bad : isBelow d xs.length = false → ∀ H', Same H H' → E (.ref (T.cl .tie)) none H' := fun e => by
    rw [e] at ho
    exact ho
  have good : isBelow d xs.length = true → ∀ v H', Same H H' → Rp K B H' v .none → Q v H' := fun e => by
    rw [e] at ho
    exact ho
  rw [T.cl_BadTie] at bad
  have ask : ∀ {E' : L2.St → XK}, JV K (tCallS (spD K T.cl [false, false] true preBelow postBelow) E' (tCons (tVar 1) (tCons (tCB (rLenQ K) (tCons (tVar 0) tNil)) tNil))) (argEnv [false, false] [.list xs, d] 2) (.bl (isBelow d xs.length)) := fun {E'} =>
    jv_callS (jf_cons (jd_var rfl) (jf_cons (Jd.int (jv_len (js_var rfl))) jf_nil)) ⟨d, (xs.length : Int), rfl, hd⟩ (fun out ⟨d', c, e, ho⟩ => by
      obtain ⟨e1, e2⟩ := one_cons e
      obtain rfl := e1
      obtain rfl := PyData.int.inj (one_cons e2).1
      exact ho) rfl
  refine run_one (run_if (b := !isBelow d xs.length) (jt_not (jt_B ask)) (fun q => run_raise (bad (by simpa using q))) (fun q => run_next (run_endN fun σ H' s => good (by simpa using q) _ H' s .non)))

end
end Tr

namespace Tr
open PySem L2 DL TT
local macro_rules | `(tactic| walk_at "jv") => `(tactic| first
  | exact jv_c
  | exact jv_var rfl rfl
  | ((with_reducible refine' jv_add ?a ?b); (case a => walk_at "jv"); (case b => walk_at "jv"))
  | ((with_reducible refine' jv_sub ?a ?b); (case a => walk_at "jv"); (case b => walk_at "jv"))
  | ((with_reducible refine' jv_lt ?a ?b); (case a => walk_at "jv"); (case b => walk_at "jv"))
  | ((with_reducible refine' jv_le ?a ?b); (case a => walk_at "jv"); (case b => walk_at "jv"))
  | ((with_reducible refine' jv_gt ?a ?b); (case a => walk_at "jv"); (case b => walk_at "jv"))
  | ((with_reducible refine' jv_ge ?a ?b); (case a => walk_at "jv"); (case b => walk_at "jv"))
  | ((with_reducible refine' jv_eqI ?a ?b); (case a => walk_at "jv"); (case b => walk_at "jv"))
  | ((with_reducible refine' jv_neI ?a ?b); (case a => walk_at "jv"); (case b => walk_at "jv"))
  | ((with_reducible refine' jv_chain ?a ?b ?c); (case a => walk_at "jv"); (case b => walk_at "jv"); (case c => walk_at "jv"))
  | ((with_reducible refine' jv_not ?a); (case a => walk_at "jv"))
  | ((with_reducible refine' jv_len ?a); (case a => walk_at "js"))
  | ((with_reducible refine' jv_lenU ?a); (case a => walk_at "ju"))
  | ((with_reducible refine' jv_min2 ?a ?b); (case a => walk_at "jv"); (case b => walk_at "jv"))
  | ((with_reducible refine' jv_max2 ?a ?b); (case a => walk_at "jv"); (case b => walk_at "jv"))
  | assumption)
local macro_rules | `(tactic| walk_at "js") => `(tactic| first
  | exact js_var rfl
  | exact js_own rfl
  | exact Jd.lowS (js_var rfl)
  | assumption
  | exact Jd.nS (by assumption))
local macro_rules | `(tactic| walk_at "ju") => `(tactic| first
  | exact ju_var rfl
  | assumption)
local macro_rules | `(tactic| walk_at "jd") => `(tactic| first
  | exact jd_var rfl
  | exact Jd.low (jd_var rfl)
  | exact Jd.low (by assumption)
  | assumption
  | ((refine' Jd.int (Jd.eqV ?a ?b)); (case a => walk_at "jv"); (case b => first | rfl | (congr 1; omega)))
  | ((refine' Jd.bool ?a); (case a => walk_at "jv")))
local macro_rules | `(tactic| walk_at "jf") => `(tactic| first
  | exact jf_nil
  | ((with_reducible refine' jf_cons ?a ?b); (case a => walk_at "jd"); (case b => walk_at "jf")))
local macro_rules | `(tactic| walk_at "less") => `(tactic| first
  | exact LessI.nil
  | (refine LessI.keep ?_; walk_at "less")
  | (refine LessI.drop ?_; walk_at "less"))
local macro_rules | `(tactic| walk_at "loop") => `(tactic| (refine' run_loopW ?x ?y; (case x => exact rfl); (case y => walk_at "less")))

section
variable {P : Program} {w : World} {K : PySem.W.Frag} {mg : Str → Option Value} {base : Heap}

def preWithout (ds : List D) : Prop := ∃ m t d, ds = [m, t, d] ∧ pln m = true ∧ pln t = true ∧ pln d = true
/-- what comes of a net and a tie's number, or a refusal -/
def postTie3 (q : Nat → List Tie → Nat → Out → Prop) (ds : List D) (out : Out) : Prop := ∃ m t d, ds = [m, t, d] ∧ ((isNet m t = false ∧ out = .err .net) ∨ ∃ n ts, m = natD n ∧ t = .list (ts.map tieD) ∧ NetOk n ts ∧
  ((isBelow d ts.length = false ∧ out = .err .tie) ∨ ∃ j, d = natD j ∧ j < ts.length ∧ q n ts j out))
theorem postTie3_ok {q : Nat → List Tie → Nat → Out → Prop} {n : Nat} {ts : List Tie} {j : Nat} {out : Out} (h : NetOk n ts) (hj : j < ts.length) (p : postTie3 q [natD n, .list (ts.map tieD), natD j] out) : q n ts j out := by
  obtain ⟨m, t, d, e, p⟩ := p
  obtain ⟨e1, e2⟩ := one_cons e
  obtain ⟨e2, e3⟩ := one_cons e2
  obtain ⟨e3, _⟩ := one_cons e3
  subst e1 e2 e3
  rcases p with ⟨b, _⟩ | ⟨n', ts', e1, e2, _, p⟩
  · rw [isNet_of h] at b
    cases b
  · obtain rfl := natD_inj e1
    obtain rfl := ties_inj (PyData.list.inj e2)
    rcases p with ⟨b, _⟩ | ⟨j', e3, _, q'⟩
    · have : isBelow (natD j) (ts.length : Int) = true := by
        show (decide (0 ≤ (j : Int)) && decide ((j : Int) < (ts.length : Int))) = true
        simp only [Bool.and_eq_true, decide_eq_true_eq]
        omega
      rw [this] at b
      cases b
    · obtain rfl := natD_inj e3
      exact q'
theorem postTie3_net {q : Nat → List Tie → Nat → Out → Prop} {m t d : D} {out : Out} (h : isNet m t = false) (p : postTie3 q [m, t, d] out) : out = .err .net := by
  obtain ⟨m', t', d', e, p⟩ := p
  obtain ⟨e1, e2⟩ := one_cons e
  obtain ⟨e2, e3⟩ := one_cons e2
  subst e1 e2
  rcases p with ⟨_, b⟩ | ⟨n', ts', e1, e2, ok, _⟩
  · exact b
  · subst e1 e2
    rw [isNet_of ok] at h
    cases h
theorem postTie3_tie {q : Nat → List Tie → Nat → Out → Prop} {n : Nat} {ts : List Tie} {d : D} {out : Out} (h : NetOk n ts) (hj : isBelow d ts.length = false) (p : postTie3 q [natD n, .list (ts.map tieD), d] out) : out = .err .tie := by
  obtain ⟨m, t, d', e, p⟩ := p
  obtain ⟨e1, e2⟩ := one_cons e
  obtain ⟨e2, e3⟩ := one_cons e2
  obtain ⟨e3, _⟩ := one_cons e3
  subst e1 e2 e3
  rcases p with ⟨b, _⟩ | ⟨n', ts', e1, e2, _, p⟩
  · rw [isNet_of h] at b
    cases b
  · obtain rfl := natD_inj e1
    obtain rfl := ties_inj (PyData.list.inj e2)
    rcases p with ⟨_, b⟩ | ⟨j', e3, l, q'⟩
    · exact b
    · subst e3
      have : isBelow (natD j') (ts.length : Int) = true := by
        show (decide (0 ≤ (j' : Int)) && decide ((j' : Int) < (ts.length : Int))) = true
        simp only [Bool.and_eq_true, decide_eq_true_eq]
        omega
      rw [this] at hj
      cases hj
theorem need_tie_ok {xs : List D} {d : D} {out : Out} (h : isBelow d xs.length = true) (p : postNtie [.list xs, d] out) : out = .val .none := by
  obtain ⟨xs', d', e, po⟩ := p
  obtain ⟨e1, e2⟩ := one_cons e
  obtain rfl := PyData.list.inj e1
  obtain rfl := (one_cons e2).1
  rw [po, h]
  rfl
theorem need_tie_bad {xs : List D} {d : D} {out : Out} (h : isBelow d xs.length = false) (p : postNtie [.list xs, d] out) : out = .err .tie := by
  obtain ⟨xs', d', e, po⟩ := p
  obtain ⟨e1, e2⟩ := one_cons e
  obtain rfl := PyData.list.inj e1
  obtain rfl := (one_cons e2).1
  rw [po, h]
  rfl
def outWithout (n : Nat) (ts : List Tie) (j : Nat) (out : Out) : Prop := out = .new ((ts.eraseIdx j).map tieD)
theorem ok_net_without (T : Tx K mg) : FnOk P w K mg base (L2.CX P w) 4 T.a_net_without T.d_net_without ["many", "ties", "tie"] (spD K T.cl [false, false, false] true preWithout (postTie3 outWithout)) := by
  refine fnD T.F_net_without sc_net_without rfl fun cdv A outer s E M B H Q ds hr hp wf ho => ?_
  obtain ⟨m, t, d, rfl, hm, ht, hd⟩ := hp
  refine ⟨_, (pss_cons (ps_expr (pe_callS (ok_need_net T) (hr.mono (by decide)) (by rfl) T.g_need_net T.F_need_net.kp T.b_need_net (fun σ => passAt (takes_of rfl rfl rfl rfl) σ) (pa_cons (pv 0) (pa_cons (pv 1) pa_nil))))
      (pss_cons (ps_expr (pe_callS (ok_need_tie T) (hr.mono (by decide)) (by rfl) T.g_need_tie T.F_need_tie.kp T.b_need_tie (fun σ => passAt (takes_of rfl rfl rfl rfl) σ) (pa_cons (pv 1) (pa_cons (pv 2) pa_nil))))
      (pss_one (ps_ret (pe_op op_addD (pe_slice (sl_K K rfl) (pv 1) po_none (po_some (pv 2))) (pe_slice (sl_K K rfl) (pv 1) (po_some (pe_op op_addD (pv 2) pe_int)) po_none)))))), ?_⟩
  cases hn : isNet m t with
  | false =>
    exact run_dropE (er_call (jf_cons (jd_var rfl) (jf_cons (jd_var rfl) jf_nil)) ⟨m, t, rfl, hm, ht⟩ fun out po => need_bad hn po) fun H' s => ho _ ⟨m, t, d, rfl, .inl ⟨hn, rfl⟩⟩ H' s
  | true =>
    obtain ⟨n, ts, rfl, rfl, nk⟩ := isNet_inv hn
    have l2 := nk.len
    refine run_drop (jd_callS (d := .none) (jf_cons (jd_var rfl) (jf_cons (jd_var rfl) jf_nil)) ⟨_, _, rfl, hm, ht⟩ fun out po => .inl (need_ok nk po)) ?_
    have le : (ts.map tieD).length = ts.length := List.length_map ..
    cases hb : isBelow d ts.length with
    | false =>
      exact run_dropE (er_call (jf_cons (jd_var rfl) (jf_cons (jd_var rfl) jf_nil)) ⟨_, d, rfl, hd⟩ fun out po => need_tie_bad (by rw [le]; exact hb) po) fun H' s => ho _ ⟨_, _, d, rfl, .inr ⟨n, ts, rfl, rfl, nk, .inl ⟨hb, rfl⟩⟩⟩ H' s
    | true =>
      obtain ⟨j, rfl, hj⟩ := isBelow_inv hb
      refine run_drop (jd_callS (d := .none) (jf_cons (jd_var rfl) (jf_cons (jd_var rfl) jf_nil)) ⟨_, _, rfl, hd⟩ fun out po => .inl (need_tie_ok (by rw [le]; exact hb) po)) ?_
      exact run_retN ((jd_without (js_var rfl) (jv_var rfl rfl) ((jv_add (jv_var rfl rfl) jv_c).eqV (by congr 1)) (by omega)).flN (flt_ties _)) (ho _ ⟨_, _, _, rfl, .inr ⟨n, ts, rfl, rfl, nk, .inr ⟨j, rfl, by omega, rfl⟩⟩⟩)

end
end Tr

namespace Tr
open PySem L2 DL TT
local macro_rules | `(tactic| walk_at "jv") => `(tactic| first
  | exact jv_c
  | exact jv_var rfl rfl
  | ((with_reducible refine' jv_add ?a ?b); (case a => walk_at "jv"); (case b => walk_at "jv"))
  | ((with_reducible refine' jv_sub ?a ?b); (case a => walk_at "jv"); (case b => walk_at "jv"))
  | ((with_reducible refine' jv_lt ?a ?b); (case a => walk_at "jv"); (case b => walk_at "jv"))
  | ((with_reducible refine' jv_le ?a ?b); (case a => walk_at "jv"); (case b => walk_at "jv"))
  | ((with_reducible refine' jv_gt ?a ?b); (case a => walk_at "jv"); (case b => walk_at "jv"))
  | ((with_reducible refine' jv_ge ?a ?b); (case a => walk_at "jv"); (case b => walk_at "jv"))
  | ((with_reducible refine' jv_eqI ?a ?b); (case a => walk_at "jv"); (case b => walk_at "jv"))
  | ((with_reducible refine' jv_neI ?a ?b); (case a => walk_at "jv"); (case b => walk_at "jv"))
  | ((with_reducible refine' jv_chain ?a ?b ?c); (case a => walk_at "jv"); (case b => walk_at "jv"); (case c => walk_at "jv"))
  | ((with_reducible refine' jv_not ?a); (case a => walk_at "jv"))
  | ((with_reducible refine' jv_len ?a); (case a => walk_at "js"))
  | ((with_reducible refine' jv_lenU ?a); (case a => walk_at "ju"))
  | ((with_reducible refine' jv_min2 ?a ?b); (case a => walk_at "jv"); (case b => walk_at "jv"))
  | ((with_reducible refine' jv_max2 ?a ?b); (case a => walk_at "jv"); (case b => walk_at "jv"))
  | assumption)
local macro_rules | `(tactic| walk_at "js") => `(tactic| first
  | exact js_var rfl
  | exact js_own rfl
  | exact Jd.lowS (js_var rfl)
  | assumption
  | exact Jd.nS (by assumption))
local macro_rules | `(tactic| walk_at "ju") => `(tactic| first
  | exact ju_var rfl
  | assumption)
local macro_rules | `(tactic| walk_at "jd") => `(tactic| first
  | exact jd_var rfl
  | exact Jd.low (jd_var rfl)
  | exact Jd.low (by assumption)
  | assumption
  | ((refine' Jd.int (Jd.eqV ?a ?b)); (case a => walk_at "jv"); (case b => first | rfl | (congr 1; omega)))
  | ((refine' Jd.bool ?a); (case a => walk_at "jv")))
local macro_rules | `(tactic| walk_at "jf") => `(tactic| first
  | exact jf_nil
  | ((with_reducible refine' jf_cons ?a ?b); (case a => walk_at "jd"); (case b => walk_at "jf")))
local macro_rules | `(tactic| walk_at "less") => `(tactic| first
  | exact LessI.nil
  | (refine LessI.keep ?_; walk_at "less")
  | (refine LessI.drop ?_; walk_at "less"))
local macro_rules | `(tactic| walk_at "loop") => `(tactic| (refine' run_loopW ?x ?y; (case x => exact rfl); (case y => walk_at "less")))

section
variable {P : Program} {w : World} {K : PySem.W.Frag} {mg : Str → Option Value} {base : Heap}

def preMoved (ds : List D) : Prop := ∃ p lo hi : Nat, ds = [natD p, natD lo, natD hi]
def postMoved (ds : List D) (out : Out) : Prop := ∃ p lo hi : Nat, ds = [natD p, natD lo, natD hi] ∧ out = .val (natD (mv lo hi p))
theorem ok_moved_place (T : Tx K mg) : FnOk P w K mg base (L2.CX P w) 1 T.a_moved_place T.d_moved_place ["place", "low", "high"] (spD K T.cl [false, false, false] true preMoved postMoved) := by
  refine fnD T.F_moved_place sc_moved_place rfl fun cdv A outer s E M B H Q ds hr hp wf ho => ?_
  obtain ⟨p, lo, hi, rfl⟩ := hp
  refine ⟨_, (pss_cons (ps_if (pt_cmpR (op_eqK K rfl hr.units) (pv 0) (pv 2) (nomark _))
      (pss_one (ps_ret (pv 1))) pss_nil)
      (pss_one (ps_ret (pe_op op_sub (pv 0) (pe_callTy call_int1 (by rfl) T.n_int (by decide +kernel) (pa_cons (pe_cmpR op_gt (pv 0) (pv 2) (nomark _)) pa_nil)))))), ?_⟩
  have ret := ho _ ⟨p, lo, hi, rfl, rfl⟩
  refine run_if (b := decide ((p : Int) = (hi : Int))) (jt_test (jv_eqI (jv_var rfl rfl) (jv_var rfl rfl))) (fun q => ?_) (fun q => ?_)
  · have q' := of_decide_eq_true q
    have e : mv lo hi p = lo := by unfold mv; rw [if_pos (by omega)]
    rw [e] at ret
    exact run_retSeq (run_retV (v := .int (lo : Int)) (n := true) (d := natD lo) (jv_var rfl rfl) rfl ret)
  · have q' := of_decide_eq_false q
    have e : (mv lo hi p : Int) = (p : Int) - (if decide ((hi : Int) < (p : Int)) = true then 1 else 0) := by
      unfold mv
      rw [if_neg (by omega)]
      by_cases c : p > hi
      · rw [if_pos c, if_pos (decide_eq_true (by omega))]; omega
      · rw [if_neg c, if_neg (by rw [decide_eq_false (by omega)]; exact Bool.false_ne_true)]; omega
    exact run_next (run_retV (v := .int (mv lo hi p : Int)) (n := true) (d := natD (mv lo hi p)) ((jv_sub (jv_var rfl rfl) (jv_intB (jv_gt (jv_var rfl rfl) (jv_var rfl rfl)))).eqV (congrArg V.int e.symm)) rfl ret)

end
end Tr

namespace Tr
open PySem L2 DL TT
local macro_rules | `(tactic| walk_at "jv") => `(tactic| first
  | exact jv_c
  | exact jv_var rfl rfl
  | ((with_reducible refine' jv_add ?a ?b); (case a => walk_at "jv"); (case b => walk_at "jv"))
  | ((with_reducible refine' jv_sub ?a ?b); (case a => walk_at "jv"); (case b => walk_at "jv"))
  | ((with_reducible refine' jv_lt ?a ?b); (case a => walk_at "jv"); (case b => walk_at "jv"))
  | ((with_reducible refine' jv_le ?a ?b); (case a => walk_at "jv"); (case b => walk_at "jv"))
  | ((with_reducible refine' jv_gt ?a ?b); (case a => walk_at "jv"); (case b => walk_at "jv"))
  | ((with_reducible refine' jv_ge ?a ?b); (case a => walk_at "jv"); (case b => walk_at "jv"))
  | ((with_reducible refine' jv_eqI ?a ?b); (case a => walk_at "jv"); (case b => walk_at "jv"))
  | ((with_reducible refine' jv_neI ?a ?b); (case a => walk_at "jv"); (case b => walk_at "jv"))
  | ((with_reducible refine' jv_chain ?a ?b ?c); (case a => walk_at "jv"); (case b => walk_at "jv"); (case c => walk_at "jv"))
  | ((with_reducible refine' jv_not ?a); (case a => walk_at "jv"))
  | ((with_reducible refine' jv_len ?a); (case a => walk_at "js"))
  | ((with_reducible refine' jv_lenU ?a); (case a => walk_at "ju"))
  | ((with_reducible refine' jv_min2 ?a ?b); (case a => walk_at "jv"); (case b => walk_at "jv"))
  | ((with_reducible refine' jv_max2 ?a ?b); (case a => walk_at "jv"); (case b => walk_at "jv"))
  | assumption)
local macro_rules | `(tactic| walk_at "js") => `(tactic| first
  | exact js_var rfl
  | exact js_own rfl
  | exact Jd.lowS (js_var rfl)
  | assumption
  | exact Jd.nS (by assumption))
local macro_rules | `(tactic| walk_at "ju") => `(tactic| first
  | exact ju_var rfl
  | assumption)
local macro_rules | `(tactic| walk_at "jd") => `(tactic| first
  | exact jd_var rfl
  | exact Jd.low (jd_var rfl)
  | exact Jd.low (by assumption)
  | assumption
  | ((refine' Jd.int (Jd.eqV ?a ?b)); (case a => walk_at "jv"); (case b => first | rfl | (congr 1; omega)))
  | ((refine' Jd.bool ?a); (case a => walk_at "jv")))
local macro_rules | `(tactic| walk_at "jf") => `(tactic| first
  | exact jf_nil
  | ((with_reducible refine' jf_cons ?a ?b); (case a => walk_at "jd"); (case b => walk_at "jf")))
local macro_rules | `(tactic| walk_at "less") => `(tactic| first
  | exact LessI.nil
  | (refine LessI.keep ?_; walk_at "less")
  | (refine LessI.drop ?_; walk_at "less"))
local macro_rules | `(tactic| walk_at "loop") => `(tactic| (refine' run_loopW ?x ?y; (case x => exact rfl); (case y => walk_at "less")))

section
variable {P : Program} {w : World} {K : PySem.W.Frag} {mg : Str → Option Value} {base : Heap}

def outTog (n : Nat) (ts : List Tie) (j : Nat) (out : Out) : Prop := out = if (ts.getD j (0, 0)).1 = (ts.getD j (0, 0)).2 then .err .self else
  .val (.tuple [natD (n - 1), .list ((contract (min (ts.getD j (0, 0)).1 (ts.getD j (0, 0)).2) (max (ts.getD j (0, 0)).1 (ts.getD j (0, 0)).2) (ts.eraseIdx j)).map tieD)])
theorem ok_net_together (T : Tx K mg) : FnOk P w K mg base (L2.CX P w) 5 T.a_net_together T.d_net_together ["many", "ties", "tie"] (spD K T.cl [false, false, false] true preWithout (postTie3 outTog)) := by
  refine fnD T.F_net_together sc_net_together rfl fun cdv A outer s E M B H Q ds hr hp wf ho => ?_
  obtain ⟨m, t, d, rfl, hm, ht, hd⟩ := hp
  refine ⟨_, (pss_cons (ps_set (i := 3) sc_net_together.nd rfl (Or.inl rfl) (pe_callS (ok_net_without T) (hr.mono (by decide)) (by rfl) T.g_net_without T.F_net_without.kp T.b_net_without (fun σ => passAt (takes_of rfl rfl rfl rfl) σ) (pa_cons (pv 0) (pa_cons (pv 1) (pa_cons (pv 2) pa_nil)))))
      (pss_cons (ps_set (i := 4) sc_net_together.nd rfl (Or.inr rfl) (pe_callB (minT_K K rfl rfl hr) (by rfl) T.n_min (by decide +kernel) (pa_cons (pe_ix (ix_K K rfl) (pv 1) (pv 2) (fun _ _ => rfl)) pa_nil)))
      (pss_cons (ps_set (i := 5) sc_net_together.nd rfl (Or.inr rfl) (pe_callB (maxT_K K rfl rfl hr) (by rfl) T.n_max (by decide +kernel) (pa_cons (pe_ix (ix_K K rfl) (pv 1) (pv 2) (fun _ _ => rfl)) pa_nil)))
      (pss_cons (ps_if (pt_cmpR (op_eqK K rfl hr.units) (pv 4) (pv 5) (nomark _))
      (pss_one (ps_raise rfl (takes_of rfl rfl rfl rfl) (pmk_own PySem.F.excBase_ValueError T.x_SelfTie T.gC_SelfTie T.kC_SelfTie (raises_own T.bC_SelfTie T.tC_SelfTie) (by rfl)))) pss_nil)
      (pss_one (ps_ret (pe_tup (pa_cons (pe_op op_sub (pv 0) pe_int) (pa_cons (pe_lc (own := [("one", 6), ("other", 7)]) rfl sc_net_together.nd (list_pi K rfl (pv 3)) (blkOk_by (own := [("one", 6), ("other", 7)]) (N := ["many", "ties", "tie", "left", "low", "high", "one", "other"]) (sc := defScope s_net_together) (by decide +kernel)) (fun _ _ _ _ _ => (pgt_K K (n := 2) rfl rfl (pgs_cons (pg_name (i := 6) sc_net_together.nd rfl (Or.inl rfl)) (pgs_cons (pg_name (i := 7) sc_net_together.nd rfl (Or.inl rfl)) pgs_nil)))) (fun _ _ _ _ _ => pts_nil) (fun _ _ _ _ _ => (pe_tup (pa_cons (pe_call (ok_moved_place T) (hr.mono (by decide)) (by rfl) T.g_moved_place T.F_moved_place.kp T.b_moved_place .nil passL (pa_cons (pv 6) (pa_cons (pv 4) (pa_cons (pv 5) pa_nil)))) (pa_cons (pe_call (ok_moved_place T) (hr.mono (by decide)) (by rfl) T.g_moved_place T.F_moved_place.kp T.b_moved_place .nil passL (pa_cons (pv 7) (pa_cons (pv 4) (pa_cons (pv 5) pa_nil)))) pa_nil))))) pa_nil))))))))), ?_⟩
  cases hn : isNet m t with
  | false =>
    exact run_setE (er_call (jf_cons (jd_var rfl) (jf_cons (jd_var rfl) (jf_cons (jd_var rfl) jf_nil))) ⟨m, t, d, rfl, hm, ht, hd⟩ fun out po => postTie3_net hn po) fun H' s => ho _ ⟨m, t, d, rfl, .inl ⟨hn, rfl⟩⟩ H' s
  | true =>
    obtain ⟨n, ts, rfl, rfl, nk⟩ := isNet_inv hn
    have l2 := nk.len
    have n7 := nk.le
    have tb := nk.inb
    cases hb : isBelow d ts.length with
    | false =>
      exact run_setE (er_call (jf_cons (jd_var rfl) (jf_cons (jd_var rfl) (jf_cons (jd_var rfl) jf_nil))) ⟨_, _, d, rfl, hm, ht, hd⟩ fun out po => postTie3_tie nk hb po) fun H' s => ho _ ⟨_, _, d, rfl, .inr ⟨n, ts, rfl, rfl, nk, .inl ⟨hb, rfl⟩⟩⟩ H' s
    | true =>
      obtain ⟨j, rfl, hj⟩ := isBelow_inv hb
      have jl : j < ts.length := by omega
      have b2 := getD_inb tb jl
      refine run_set (n := true) (d := .list ((ts.eraseIdx j).map tieD)) (jn_callS (jf_cons (jd_var rfl) (jf_cons (jd_var rfl) (jf_cons (jd_var rfl) jf_nil))) ⟨_, _, _, rfl, hm, ht, hd⟩ fun out po => postTie3_ok nk jl po).nD ?_
      obtain ⟨u, hu⟩ : ∃ u, u = ts.getD j (0, 0) := ⟨_, rfl⟩
      have ret : OutOk K T.cl M B true H Q E (if u.1 = u.2 then .err .self else .val (.tuple [natD (n - 1), .list ((contract (min u.1 u.2) (max u.1 u.2) (ts.eraseIdx j)).map tieD)])) := ho _ ⟨_, _, _, rfl, .inr ⟨n, ts, rfl, rfl, nk, .inr ⟨j, rfl, jl, by rw [hu]; rfl⟩⟩⟩
      rw [← hu] at b2
      have tj : ∀ env, env[1]? = some (.val false (.list (ts.map tieD))) → env[2]? = some (.val false (natD j)) → JU K (tOp (rIx K) (tVar 1) (tVar 2)) env false [.int (u.1 : Int), .int (u.2 : Int)] := fun env h1 h2 =>
        ((jd_ixE (enc := tieD) j (0, 0) (js_var h1) (jv_var h2 rfl) rfl jl).eqD (by rw [← hu]; rfl)).dU
      obtain ⟨lo, hlo⟩ : ∃ lo, lo = min u.1 u.2 := ⟨_, rfl⟩
      obtain ⟨hi, hhi⟩ : ∃ hi, hi = max u.1 u.2 := ⟨_, rfl⟩
      rw [← hlo, ← hhi] at ret
      refine run_setI (z := (lo : Int)) ((jv_minT (tj _ rfl rfl)).eqV (by rw [hlo]; congr 1; omega)) ?_
      refine run_setI (z := (hi : Int)) ((jv_maxT (tj _ rfl rfl)).eqV (by rw [hhi]; congr 1; omega)) ?_
      refine run_if (b := decide ((lo : Int) = (hi : Int))) (jt_test (jv_eqI (jv_var rfl rfl) (jv_var rfl rfl))) (fun q => ?_) (fun q => ?_)
      · have q' := of_decide_eq_true q
        rw [if_pos (by omega)] at ret
        have r2 : ∀ H', Same H H' → E (.ref (T.cl .self)) none H' := ret
        rw [T.cl_SelfTie] at r2
        exact run_raiseSeq (run_raise r2) fun _ _ _ h => h
      · have q' := of_decide_eq_false q
        rw [if_neg (by omega)] at ret
        have lh : lo < hi := by omega
        have mc : ∀ {env : List Sl} (i p : Nat), env[i]? = some (.val true (natD p)) → env[4]? = some (.val true (.int (lo : Int))) → env[5]? = some (.val true (.int (hi : Int))) → JV K (tCall (spD K T.cl [false, false, false] true preMoved postMoved) [] E0 (tCons (tVar i) (tCons (tVar 4) (tCons (tVar 5) tNil)))) env (.int (mv lo hi p : Int)) := fun {env} i p h1 h2 h3 =>
          jv_call (d := natD (mv lo hi p)) (jf_cons (jd_nat h1) (jf_cons (jd_nat (p := lo) h2) (jf_cons (jd_nat (p := hi) h3) jf_nil))) ⟨p, lo, hi, rfl⟩ (fun out ⟨p', lo', hi', e, po⟩ => by
            obtain ⟨e1, e2⟩ := one_cons e
            obtain ⟨e2, e3⟩ := one_cons e2
            rw [po, natD_inj e1, natD_inj e2, natD_inj (one_cons e3).1]) rfl
        refine run_next (run_ret (n := true) (d := .tuple [natD (n - 1), .list ((contract lo hi (ts.eraseIdx j)).map tieD)]) (Jd.uD (ju_tup (ja_cons (Jd.int (j := ((n - 1 : Nat) : Int)) ((jv_sub (jv_var rfl rfl) jv_c).eqV (by congr 1; have := nk.pos; omega))) (ja_cons ?_ ja_nil)) (by simp))) ret)
        refine ((jn_mapL (enc := tieD) (n0 := true) (ts.eraseIdx j) (fun t => tieD (mv lo hi t.1, mv lo hi t.2)) (js_var rfl) (by have := List.length_eraseIdx_le ts j; omega) fun t ht => ⟨_, tg_two, Jd.uD (ju_tup (ja_cons (Jd.int (mc 6 t.1 rfl rfl rfl)) (ja_cons (Jd.int (mc 7 t.2 rfl rfl rfl)) ja_nil)) (by simp))⟩).eqN ?_).nD
        unfold contract
        rw [List.map_map]
        rfl

end
end Tr

namespace Tr
open PySem L2 DL TT
local macro_rules | `(tactic| walk_at "jv") => `(tactic| first
  | exact jv_c
  | exact jv_var rfl rfl
  | ((with_reducible refine' jv_add ?a ?b); (case a => walk_at "jv"); (case b => walk_at "jv"))
  | ((with_reducible refine' jv_sub ?a ?b); (case a => walk_at "jv"); (case b => walk_at "jv"))
  | ((with_reducible refine' jv_lt ?a ?b); (case a => walk_at "jv"); (case b => walk_at "jv"))
  | ((with_reducible refine' jv_le ?a ?b); (case a => walk_at "jv"); (case b => walk_at "jv"))
  | ((with_reducible refine' jv_gt ?a ?b); (case a => walk_at "jv"); (case b => walk_at "jv"))
  | ((with_reducible refine' jv_ge ?a ?b); (case a => walk_at "jv"); (case b => walk_at "jv"))
  | ((with_reducible refine' jv_eqI ?a ?b); (case a => walk_at "jv"); (case b => walk_at "jv"))
  | ((with_reducible refine' jv_neI ?a ?b); (case a => walk_at "jv"); (case b => walk_at "jv"))
  | ((with_reducible refine' jv_chain ?a ?b ?c); (case a => walk_at "jv"); (case b => walk_at "jv"); (case c => walk_at "jv"))
  | ((with_reducible refine' jv_not ?a); (case a => walk_at "jv"))
  | ((with_reducible refine' jv_len ?a); (case a => walk_at "js"))
  | ((with_reducible refine' jv_lenU ?a); (case a => walk_at "ju"))
  | ((with_reducible refine' jv_min2 ?a ?b); (case a => walk_at "jv"); (case b => walk_at "jv"))
  | ((with_reducible refine' jv_max2 ?a ?b); (case a => walk_at "jv"); (case b => walk_at "jv"))
  | assumption)
local macro_rules | `(tactic| walk_at "js") => `(tactic| first
  | exact js_var rfl
  | exact js_own rfl
  | exact Jd.lowS (js_var rfl)
  | assumption
  | exact Jd.nS (by assumption))
local macro_rules | `(tactic| walk_at "ju") => `(tactic| first
  | exact ju_var rfl
  | assumption)
local macro_rules | `(tactic| walk_at "jd") => `(tactic| first
  | exact jd_var rfl
  | exact Jd.low (jd_var rfl)
  | exact Jd.low (by assumption)
  | assumption
  | ((refine' Jd.int (Jd.eqV ?a ?b)); (case a => walk_at "jv"); (case b => first | rfl | (congr 1; omega)))
  | ((refine' Jd.bool ?a); (case a => walk_at "jv")))
local macro_rules | `(tactic| walk_at "jf") => `(tactic| first
  | exact jf_nil
  | ((with_reducible refine' jf_cons ?a ?b); (case a => walk_at "jd"); (case b => walk_at "jf")))
local macro_rules | `(tactic| walk_at "less") => `(tactic| first
  | exact LessI.nil
  | (refine LessI.keep ?_; walk_at "less")
  | (refine LessI.drop ?_; walk_at "less"))
local macro_rules | `(tactic| walk_at "loop") => `(tactic| (refine' run_loopW ?x ?y; (case x => exact rfl); (case y => walk_at "less")))

section
variable {P : Program} {w : World} {K : PySem.W.Frag} {mg : Str → Option Value} {base : Heap}

def preBetw (ds : List D) : Prop := ∃ (ts : List Tie) (p q : Nat), ds = [.list (ts.map tieD), natD p, natD q] ∧ ts.length ≤ 100
def postBetw (ds : List D) (out : Out) : Prop := ∃ (ts : List Tie) (p q : Nat), ds = [.list (ts.map tieD), natD p, natD q] ∧ out = .val (natD (betw ts p q).length)
theorem ok_between (T : Tx K mg) : FnOk P w K mg base (L2.CX P w) 1 T.a_between T.d_between ["ties", "one", "other"] (spD K T.cl [false, false, false] true preBetw postBetw) := by
  refine fnD T.F_between sc_between rfl fun cdv A outer s E M B H Q ds hr hp wf ho => ?_
  obtain ⟨ts, p, q, rfl, hz⟩ := hp
  refine ⟨_, (pss_one (ps_ret (pe_callB (len_K K rfl) (by rfl) T.n_len (by decide +kernel) (pa_cons (pe_lc (own := [("tie", 3)]) rfl sc_between.nd (list_pi K rfl (pv 0)) (blkOk_by (own := [("tie", 3)]) (N := ["ties", "one", "other", "tie"]) (sc := defScope s_between) (by decide +kernel)) (fun _ _ _ _ _ => (pg_name (i := 3) sc_between.nd rfl (Or.inl rfl))) (fun _ _ _ _ _ => (pts_one (pt_cmpR (op_inU K rfl hr) (pv 3) (pe_tup (pa_cons (pe_tup (pa_cons (pv 1) (pa_cons (pv 2) pa_nil))) (pa_cons (pe_tup (pa_cons (pv 2) (pa_cons (pv 1) pa_nil))) pa_nil))) (by rfl)))) (fun _ _ _ _ _ => (pv 3))) pa_nil)))), ?_⟩
  have lc : JN K (tLc (iList K (tVar 0)) (gName 3) (tTest (tOp (rInA K) (tVar 3) (tTup (tCons (tTup (tCons (tVar 1) (tCons (tVar 2) tNil))) (tCons (tTup (tCons (tVar 2) (tCons (tVar 1) tNil))) tNil))))) (tVar 3) [3]) (argEnv [false, false, false] [.list (ts.map tieD), natD p, natD q] 4) false ((betw ts p q).map tieD) := by
    refine (jn_lcL (enc := tieD) (n0 := false) ts (fun t => decide (t = (p, q) ∨ t = (q, p))) tieD (js_var rfl) (by omega) fun t ht => ⟨_, tg_name, jt_test ?_, fun _ => jd_var rfl⟩)
    have tu : ∀ {x y : Nat}, OkD 1 (tieD (x, y)) := okD_tie _
    refine jv_inT (d := tieD t) (es := [tieD (p, q), tieD (q, p)]) (jd_eE (n := false) (jd_var rfl) (okD_tie (k := 0) t)) (jd_eE (n := false) (Jd.uD (ju_tup (ja_cons (Jd.uD (ju_tup (ja_cons (jd_var rfl) (ja_cons (jd_var rfl) ja_nil)) (by simp))) (ja_cons (Jd.uD (ju_tup (ja_cons (jd_var rfl) (ja_cons (jd_var rfl) ja_nil)) (by simp))) ja_nil)) (by simp))) (okD_tuple (k := 1) fun d hd => ?_)) (okD_tie (k := 0) t) (okD_tuple (k := 1) fun d hd => ?_) ?_
    · rcases List.mem_cons.mp hd with z | z
      · rw [z]; exact tu
      · rw [List.mem_singleton.mp z]; exact tu
    · rcases List.mem_cons.mp hd with z | z
      · rw [z]; exact tu
      · rw [List.mem_singleton.mp z]; exact tu
    · rw [decide_eq_true_iff]
      constructor
      · rintro (z | z) <;> rw [z] <;> simp
      · intro z
        rcases List.mem_cons.mp z with z | z
        · exact .inl (tieD_inj z)
        · exact .inr (tieD_inj (List.mem_singleton.mp z))
  refine run_retV (v := .int ((betw ts p q).length : Int)) (n := true) (d := natD (betw ts p q).length) ((jv_len lc.nS).eqV (by rw [List.length_map])) rfl (ho _ ⟨ts, p, q, rfl, rfl⟩)

end
end Tr

namespace Tr
open PySem L2 DL TT
local macro_rules | `(tactic| walk_at "jv") => `(tactic| first
  | exact jv_c
  | exact jv_var rfl rfl
  | ((with_reducible refine' jv_add ?a ?b); (case a => walk_at "jv"); (case b => walk_at "jv"))
  | ((with_reducible refine' jv_sub ?a ?b); (case a => walk_at "jv"); (case b => walk_at "jv"))
  | ((with_reducible refine' jv_lt ?a ?b); (case a => walk_at "jv"); (case b => walk_at "jv"))
  | ((with_reducible refine' jv_le ?a ?b); (case a => walk_at "jv"); (case b => walk_at "jv"))
  | ((with_reducible refine' jv_gt ?a ?b); (case a => walk_at "jv"); (case b => walk_at "jv"))
  | ((with_reducible refine' jv_ge ?a ?b); (case a => walk_at "jv"); (case b => walk_at "jv"))
  | ((with_reducible refine' jv_eqI ?a ?b); (case a => walk_at "jv"); (case b => walk_at "jv"))
  | ((with_reducible refine' jv_neI ?a ?b); (case a => walk_at "jv"); (case b => walk_at "jv"))
  | ((with_reducible refine' jv_chain ?a ?b ?c); (case a => walk_at "jv"); (case b => walk_at "jv"); (case c => walk_at "jv"))
  | ((with_reducible refine' jv_not ?a); (case a => walk_at "jv"))
  | ((with_reducible refine' jv_len ?a); (case a => walk_at "js"))
  | ((with_reducible refine' jv_lenU ?a); (case a => walk_at "ju"))
  | ((with_reducible refine' jv_min2 ?a ?b); (case a => walk_at "jv"); (case b => walk_at "jv"))
  | ((with_reducible refine' jv_max2 ?a ?b); (case a => walk_at "jv"); (case b => walk_at "jv"))
  | assumption)
local macro_rules | `(tactic| walk_at "js") => `(tactic| first
  | exact js_var rfl
  | exact js_own rfl
  | exact Jd.lowS (js_var rfl)
  | assumption
  | exact Jd.nS (by assumption))
local macro_rules | `(tactic| walk_at "ju") => `(tactic| first
  | exact ju_var rfl
  | assumption)
local macro_rules | `(tactic| walk_at "jd") => `(tactic| first
  | exact jd_var rfl
  | exact Jd.low (jd_var rfl)
  | exact Jd.low (by assumption)
  | assumption
  | ((refine' Jd.int (Jd.eqV ?a ?b)); (case a => walk_at "jv"); (case b => first | rfl | (congr 1; omega)))
  | ((refine' Jd.bool ?a); (case a => walk_at "jv")))
local macro_rules | `(tactic| walk_at "jf") => `(tactic| first
  | exact jf_nil
  | ((with_reducible refine' jf_cons ?a ?b); (case a => walk_at "jd"); (case b => walk_at "jf")))
local macro_rules | `(tactic| walk_at "less") => `(tactic| first
  | exact LessI.nil
  | (refine LessI.keep ?_; walk_at "less")
  | (refine LessI.drop ?_; walk_at "less"))
local macro_rules | `(tactic| walk_at "loop") => `(tactic| (refine' run_loopW ?x ?y; (case x => exact rfl); (case y => walk_at "less")))

section
variable {P : Program} {w : World} {K : PySem.W.Frag} {mg : Str → Option Value} {base : Heap}

def preRowAt (ds : List D) : Prop := ∃ (n : Nat) (ts : List Tie) (p : Nat), ds = [natD n, .list (ts.map tieD), natD p] ∧ ts.length ≤ 100 ∧ n ≤ 100 ∧ p < n
def postRowAt (ds : List D) (out : Out) : Prop := ∃ (n : Nat) (ts : List Tie) (p : Nat), ds = [natD n, .list (ts.map tieD), natD p] ∧ out = .new (((List.range n).map fun q => lap ts p q).map PyData.int)
theorem ok_row_at (T : Tx K mg) : FnOk P w K mg base (L2.CX P w) 2 T.a_row_at T.d_row_at ["many", "ties", "place"] (spD K T.cl [false, false, false] true preRowAt postRowAt) := by
  refine fnD T.F_row_at sc_row_at rfl fun cdv A outer s E M B H Q ds hr hp wf ho => ?_
  obtain ⟨n, ts, p, rfl, hz, hn, hpn⟩ := hp
  refine ⟨_, (pss_cons (ps_setLc (i := 3) (own := [("other", 4)]) rfl sc_row_at.nd rfl rfl (sw_true rfl rfl rfl (by decide +kernel)) (pi_range1 (by rfl) T.n_range (pa_cons (pv 0) pa_nil)) (blkOk_by (own := [("other", 4)]) (N := ["many", "ties", "place", "row", "other", "tie"]) (sc := defScope s_row_at) (by decide +kernel)) (fun _ _ _ _ _ => (pg_name (i := 4) sc_row_at.nd rfl (Or.inl rfl))) (fun _ _ _ _ _ => pts_nil) (fun _ _ _ _ _ => (pe_op op_sub pe_int (pe_call (ok_between T) (hr.mono (by decide)) (by rfl) T.g_between T.F_between.kp T.b_between .nil passL (pa_cons (pv 1) (pa_cons (pv 2) (pa_cons (pv 4) pa_nil)))))))
      (pss_cons (ps_asg (pe_callB (len_K K rfl) (by rfl) T.n_len (by decide +kernel) (pa_cons (pe_lc (own := [("tie", 5)]) rfl sc_row_at.nd (list_pi K rfl (pv 1)) (blkOk_by (own := [("tie", 5)]) (N := ["many", "ties", "place", "row", "other", "tie"]) (sc := defScope s_row_at) (by decide +kernel)) (fun _ _ _ _ _ => (pg_name (i := 5) sc_row_at.nd rfl (Or.inl rfl))) (fun _ _ _ _ _ => (pts_one (PW.pt (pw_and (pt_cmpR (op_inU K rfl hr) (pv 2) (pv 5) (by rfl)) (pw_and1 (pt_cmpR (op_neK K rfl hr.units) (pe_ix (ix_K K rfl) (pv 5) pe_int (fun _ _ => rfl)) (pe_ix (ix_K K rfl) (pv 5) pe_int (fun _ _ => rfl)) (nomark _))))))) (fun _ _ _ _ _ => (pv 5))) pa_nil)) (pg_sub (pv 3) (pv 2) set_list))
      (pss_one (ps_ret (pv 3))))), ?_⟩
  have bt : ∀ {env : List Sl} (q : Nat), env[1]? = some (.val false (.list (ts.map tieD))) → env[2]? = some (.val false (natD p)) → env[4]? = some (.val true (natD q)) → JV K (tCall (spD K T.cl [false, false, false] true preBetw postBetw) [] E0 (tCons (tVar 1) (tCons (tVar 2) (tCons (tVar 4) tNil)))) env (.int ((betw ts p q).length : Int)) := fun {env} q h1 h2 h4 =>
    jv_call (d := natD (betw ts p q).length) (jf_cons (jd_var h1) (jf_cons (jd_var h2) (jf_cons (jd_var h4).low jf_nil))) ⟨ts, p, q, rfl, hz⟩ (fun out ⟨ts', p', q', e, po⟩ => by
      obtain ⟨e1, e2⟩ := one_cons e
      obtain ⟨e2, e3⟩ := one_cons e2
      rw [po, ties_inj (PyData.list.inj e1), natD_inj e2, natD_inj (one_cons e3).1]) rfl
  refine run_setN (n := true) (ds := ((List.range n).map fun q => 0 - ((betw ts p q).length : Int)).map PyData.int) ((jn_mapR (k := (n : Int)) (fun q => .int (0 - ((betw ts p q).length : Int))) (jv_var rfl rfl) (by omega) (by omega) fun q hq => ⟨_, tg_name, Jd.int (jv_sub jv_c (bt q rfl rfl rfl))⟩).eqN ?_) ?_
  · rw [Int.toNat_natCast, List.map_map]
    rfl
  · have lc : ∀ env, env[1]? = some (.val false (.list (ts.map tieD))) → env[2]? = some (.val false (natD p)) → env.length = 6 → JN K (tLc (iList K (tVar 1)) (gName 5) (tAnd (tTest (tOp (rInA K) (tVar 2) (tVar 5))) (tTest (tOp (rNeD K) (tOp (rIx K) (tVar 5) (tC (.int 0))) (tOp (rIx K) (tVar 5) (tC (.int 1)))))) (tVar 5) [5]) env false ((ends ts p).map tieD) := fun env h1 h2 h3 => by
      have w5 : ∀ (d : D) (i : Nat), i ≠ 5 → ((wipeE env [5]).set 5 (.val false d))[i]? = env[i]? := fun d i hi => by
        show ((env.set 5 .un).set 5 _)[i]? = _
        rw [List.getElem?_set_ne (fun z => hi z.symm), List.getElem?_set_ne (fun z => hi z.symm)]
      have at5 : ∀ d : D, ((wipeE env [5]).set 5 (.val false d))[5]? = some (.val false d) := fun d => by
        show ((env.set 5 .un).set 5 _)[5]? = _
        rw [List.getElem?_set_self (by rw [List.length_set]; omega)]
      refine jn_lcL (enc := tieD) (n0 := false) ts (fun t => decide (p = t.1 ∨ p = t.2) && !decide (t.1 = t.2)) tieD (js_var h1) (by omega) fun t ht => ⟨_, tg_name, ?_, fun _ => jd_var (at5 _)⟩
      have ix0 : JV K (tOp (rIx K) (tVar 5) (tC (.int 0))) ((wipeE env [5]).set 5 (.val false (tieD t))) (.int (t.1 : Int)) := (jd_ixU (d := natD t.1) (ju_var (at5 _)) jv_c rfl).toV rfl
      have ix1 : JV K (tOp (rIx K) (tVar 5) (tC (.int 1))) ((wipeE env [5]).set 5 (.val false (tieD t))) (.int (t.2 : Int)) := (jd_ixU (d := natD t.2) (ju_var (at5 _)) jv_c rfl).toV rfl
      refine jt_and (jt_test (jv_inT (d := natD p) (es := [natD t.1, natD t.2]) (jd_eE (n := false) (jd_var ((w5 _ 2 (by decide)).trans h2)) (okD_int (k := 0) _)) (jd_eE (n := false) (jd_var (at5 _)) (okD_tie (k := 0) t)) (okD_int (k := 0) _) (okD_tie (k := 0) t) ?_)) fun _ => (jt_test (jv_neI ix0 ix1)).to ?_
      · rw [decide_eq_true_iff]
        constructor
        · rintro (z | z) <;> rw [z] <;> simp
        · intro z
          rcases List.mem_cons.mp z with z | z
          · exact .inl (natD_inj z)
          · exact .inr (natD_inj (List.mem_singleton.mp z))
      · congr 1
        rw [Bool.eq_iff_iff, decide_eq_true_iff, decide_eq_true_iff]
        omega
    refine run_put (j := p) (n := true) (ds := ((List.range n).map fun q => 0 - ((betw ts p q).length : Int)).map PyData.int) rfl (d := .int ((ends ts p).length : Int)) (Jd.int ((jv_len (lc _ rfl rfl rfl).nS).eqV (by rw [List.length_map]))) (jv_var rfl rfl) rfl (by simp; omega) (run_retO rfl ?_)
    have e : (((List.range n).map fun q => 0 - ((betw ts p q).length : Int)).map PyData.int).set p (.int ((ends ts p).length : Int)) = ((List.range n).map fun q => lap ts p q).map PyData.int := by
      rw [← List.map_set]
      congr 1
      refine List.ext_getElem? fun i => ?_
      by_cases c : i = p
      · rw [c, List.getElem?_set_self (by simp; omega), List.getElem?_map, List.getElem?_range hpn]
        exact congrArg some (lap_diag ts).symm
      · rw [List.getElem?_set_ne (fun z => c z.symm), List.getElem?_map, List.getElem?_map]
        by_cases hi : i < n
        · rw [List.getElem?_range hi]
          exact congrArg some (lap_off (fun z => c z.symm) ts).symm
        · rw [List.getElem?_eq_none (by simp; omega)]
          rfl
    rw [e]
    exact ho _ ⟨n, ts, p, rfl, rfl⟩

end
end Tr

namespace Tr
open PySem L2 DL TT
local macro_rules | `(tactic| walk_at "jv") => `(tactic| first
  | exact jv_c
  | exact jv_var rfl rfl
  | ((with_reducible refine' jv_add ?a ?b); (case a => walk_at "jv"); (case b => walk_at "jv"))
  | ((with_reducible refine' jv_sub ?a ?b); (case a => walk_at "jv"); (case b => walk_at "jv"))
  | ((with_reducible refine' jv_lt ?a ?b); (case a => walk_at "jv"); (case b => walk_at "jv"))
  | ((with_reducible refine' jv_le ?a ?b); (case a => walk_at "jv"); (case b => walk_at "jv"))
  | ((with_reducible refine' jv_gt ?a ?b); (case a => walk_at "jv"); (case b => walk_at "jv"))
  | ((with_reducible refine' jv_ge ?a ?b); (case a => walk_at "jv"); (case b => walk_at "jv"))
  | ((with_reducible refine' jv_eqI ?a ?b); (case a => walk_at "jv"); (case b => walk_at "jv"))
  | ((with_reducible refine' jv_neI ?a ?b); (case a => walk_at "jv"); (case b => walk_at "jv"))
  | ((with_reducible refine' jv_chain ?a ?b ?c); (case a => walk_at "jv"); (case b => walk_at "jv"); (case c => walk_at "jv"))
  | ((with_reducible refine' jv_not ?a); (case a => walk_at "jv"))
  | ((with_reducible refine' jv_len ?a); (case a => walk_at "js"))
  | ((with_reducible refine' jv_lenU ?a); (case a => walk_at "ju"))
  | ((with_reducible refine' jv_min2 ?a ?b); (case a => walk_at "jv"); (case b => walk_at "jv"))
  | ((with_reducible refine' jv_max2 ?a ?b); (case a => walk_at "jv"); (case b => walk_at "jv"))
  | assumption)
local macro_rules | `(tactic| walk_at "js") => `(tactic| first
  | exact js_var rfl
  | exact js_own rfl
  | exact Jd.lowS (js_var rfl)
  | assumption
  | exact Jd.nS (by assumption))
local macro_rules | `(tactic| walk_at "ju") => `(tactic| first
  | exact ju_var rfl
  | assumption)
local macro_rules | `(tactic| walk_at "jd") => `(tactic| first
  | exact jd_var rfl
  | exact Jd.low (jd_var rfl)
  | exact Jd.low (by assumption)
  | assumption
  | ((refine' Jd.int (Jd.eqV ?a ?b)); (case a => walk_at "jv"); (case b => first | rfl | (congr 1; omega)))
  | ((refine' Jd.bool ?a); (case a => walk_at "jv")))
local macro_rules | `(tactic| walk_at "jf") => `(tactic| first
  | exact jf_nil
  | ((with_reducible refine' jf_cons ?a ?b); (case a => walk_at "jd"); (case b => walk_at "jf")))
local macro_rules | `(tactic| walk_at "less") => `(tactic| first
  | exact LessI.nil
  | (refine LessI.keep ?_; walk_at "less")
  | (refine LessI.drop ?_; walk_at "less"))
local macro_rules | `(tactic| walk_at "loop") => `(tactic| (refine' run_loopW ?x ?y; (case x => exact rfl); (case y => walk_at "less")))

section
variable {P : Program} {w : World} {K : PySem.W.Frag} {mg : Str → Option Value} {base : Heap}

def outTable (n : Nat) (ts : List Tie) (out : Out) : Prop := out = .new ((lapL n ts).map rowD)
theorem ok_table_of (T : Tx K mg) : FnOk P w K mg base (L2.CX P w) 4 T.a_table_of T.d_table_of ["many", "ties"] (spD K T.cl [false, false] true preNet (postOr outTable)) := by
  refine fnD T.F_table_of sc_table_of rfl fun cdv A outer s E M B H Q ds hr hp wf ho => ?_
  obtain ⟨m, t, rfl, hm, ht⟩ := hp
  refine ⟨_, (pss_cons (ps_expr (pe_callS (ok_need_net T) (hr.mono (by decide)) (by rfl) T.g_need_net T.F_need_net.kp T.b_need_net (fun σ => passAt (takes_of rfl rfl rfl rfl) σ) (pa_cons (pv 0) (pa_cons (pv 1) pa_nil))))
      (pss_one (ps_ret (pe_lc (own := [("place", 2)]) rfl sc_table_of.nd (pi_range1 (by rfl) T.n_range (pa_cons (pv 0) pa_nil)) (blkOk_by (own := [("place", 2)]) (N := ["many", "ties", "place"]) (sc := defScope s_table_of) (by decide +kernel)) (fun _ _ _ _ _ => (pg_name (i := 2) sc_table_of.nd rfl (Or.inl rfl))) (fun _ _ _ _ _ => pts_nil) (fun _ _ _ _ _ => (pe_call (ok_row_at T) (hr.mono (by decide)) (by rfl) T.g_row_at T.F_row_at.kp T.b_row_at .nil passL (pa_cons (pv 0) (pa_cons (pv 1) (pa_cons (pv 2) pa_nil))))))))), ?_⟩
  cases hn : isNet m t with
  | false =>
    exact run_dropE (er_call (by walk_at "jf") ⟨m, t, rfl, hm, ht⟩ fun out po => need_bad hn po) fun H' s => ho _ ⟨m, t, rfl, .inl ⟨hn, rfl⟩⟩ H' s
  | true =>
    obtain ⟨n, ts, rfl, rfl, nk⟩ := isNet_inv hn
    have l1 := nk.le
    have l2 := nk.len
    refine run_drop (jd_callS (d := .none) (by walk_at "jf") ⟨_, _, rfl, hm, ht⟩ fun out po => .inl (need_ok nk po)) ?_
    have rowc : ∀ {env : List Sl} (p : Nat), p < n → env[0]? = some (.val false (natD n)) → env[1]? = some (.val false (.list (ts.map tieD))) → env[2]? = some (.val true (natD p)) → JD K (tCall (spD K T.cl [false, false, false] true preRowAt postRowAt) [] E0 (tCons (tVar 0) (tCons (tVar 1) (tCons (tVar 2) tNil)))) env true (rowD ((List.range n).map fun q => lap ts p q)) := fun {env} p hp h0 h1 h2 =>
      jd_call (jf_cons (jd_var h0) (jf_cons (jd_var h1) (jf_cons (jd_var h2).low jf_nil))) ⟨n, ts, p, rfl, by omega, by omega, hp⟩ fun out ⟨n', ts', p', e, po⟩ => by
        obtain ⟨e1, e2⟩ := one_cons e
        obtain ⟨e2, e3⟩ := one_cons e2
        rw [natD_inj e1, ties_inj (PyData.list.inj e2), natD_inj (one_cons e3).1]
        exact .inr ⟨_, rfl, po⟩
    refine run_retN ((jn_mapR (k := (n : Int)) (fun p => rowD ((List.range n).map fun q => lap ts p q)) (jv_var rfl rfl) (by omega) (by omega) fun p hp => ⟨_, tg_name, rowc p (by omega) rfl rfl rfl⟩).eqN ?_) (ho _ ⟨_, _, rfl, .inr ⟨n, ts, rfl, rfl, nk, rfl⟩⟩)
    rw [Int.toNat_natCast]
    unfold lapL
    rw [List.map_map]
    rfl

end
end Tr

namespace Tr
open PySem L2 DL TT
local macro_rules | `(tactic| walk_at "jv") => `(tactic| first
  | exact jv_c
  | exact jv_var rfl rfl
  | ((with_reducible refine' jv_add ?a ?b); (case a => walk_at "jv"); (case b => walk_at "jv"))
  | ((with_reducible refine' jv_sub ?a ?b); (case a => walk_at "jv"); (case b => walk_at "jv"))
  | ((with_reducible refine' jv_lt ?a ?b); (case a => walk_at "jv"); (case b => walk_at "jv"))
  | ((with_reducible refine' jv_le ?a ?b); (case a => walk_at "jv"); (case b => walk_at "jv"))
  | ((with_reducible refine' jv_gt ?a ?b); (case a => walk_at "jv"); (case b => walk_at "jv"))
  | ((with_reducible refine' jv_ge ?a ?b); (case a => walk_at "jv"); (case b => walk_at "jv"))
  | ((with_reducible refine' jv_eqI ?a ?b); (case a => walk_at "jv"); (case b => walk_at "jv"))
  | ((with_reducible refine' jv_neI ?a ?b); (case a => walk_at "jv"); (case b => walk_at "jv"))
  | ((with_reducible refine' jv_chain ?a ?b ?c); (case a => walk_at "jv"); (case b => walk_at "jv"); (case c => walk_at "jv"))
  | ((with_reducible refine' jv_not ?a); (case a => walk_at "jv"))
  | ((with_reducible refine' jv_len ?a); (case a => walk_at "js"))
  | ((with_reducible refine' jv_lenU ?a); (case a => walk_at "ju"))
  | ((with_reducible refine' jv_min2 ?a ?b); (case a => walk_at "jv"); (case b => walk_at "jv"))
  | ((with_reducible refine' jv_max2 ?a ?b); (case a => walk_at "jv"); (case b => walk_at "jv"))
  | assumption)
local macro_rules | `(tactic| walk_at "js") => `(tactic| first
  | exact js_var rfl
  | exact js_own rfl
  | exact Jd.lowS (js_var rfl)
  | assumption
  | exact Jd.nS (by assumption))
local macro_rules | `(tactic| walk_at "ju") => `(tactic| first
  | exact ju_var rfl
  | assumption)
local macro_rules | `(tactic| walk_at "jd") => `(tactic| first
  | exact jd_var rfl
  | exact Jd.low (jd_var rfl)
  | exact Jd.low (by assumption)
  | assumption
  | ((refine' Jd.int (Jd.eqV ?a ?b)); (case a => walk_at "jv"); (case b => first | rfl | (congr 1; omega)))
  | ((refine' Jd.bool ?a); (case a => walk_at "jv")))
local macro_rules | `(tactic| walk_at "jf") => `(tactic| first
  | exact jf_nil
  | ((with_reducible refine' jf_cons ?a ?b); (case a => walk_at "jd"); (case b => walk_at "jf")))
local macro_rules | `(tactic| walk_at "less") => `(tactic| first
  | exact LessI.nil
  | (refine LessI.keep ?_; walk_at "less")
  | (refine LessI.drop ?_; walk_at "less"))
local macro_rules | `(tactic| walk_at "loop") => `(tactic| (refine' run_loopW ?x ?y; (case x => exact rfl); (case y => walk_at "less")))

section
variable {P : Program} {w : World} {K : PySem.W.Frag} {mg : Str → Option Value} {base : Heap}

def preFirst (ds : List D) : Prop := ∃ (n a : Nat) (R : List (List Int)), ds = [rowsD R, natD a] ∧ Sq n R ∧ n ≤ 8 ∧ a < n
def postFirst (ds : List D) (out : Out) : Prop := ∃ (n a : Nat) (R : List (List Int)), ds = [rowsD R, natD a] ∧ Sq n R ∧
  ((out = .val .none ∧ ∀ i, a ≤ i → i < n → ent R i a = 0) ∨ ∃ k, a ≤ k ∧ k < n ∧ ent R k a ≠ 0 ∧ out = .val (natD k))
theorem ok_first_row (T : Tx K mg) : FnOk P w K mg base (L2.CX P w) 1 T.a_first_row T.d_first_row ["rows", "at"] (spD K T.cl [false, false] true preFirst postFirst) := by
  refine fnD T.F_first_row sc_first_row rfl fun cdv A outer s E M B H Q ds hr hp wf ho => ?_
  obtain ⟨n, a, R, rfl, sq, n8, han⟩ := hp
  refine ⟨_, (pss_cons (PS.nox (ps_for PassesOwn.never rfl (pi_range2 (by rfl) T.n_range (pa_cons (pv 1) (pa_cons (pe_callB (len_K K rfl) (by rfl) T.n_len (by decide +kernel) (pa_cons (pv 0) pa_nil)) pa_nil))) (pg_name (i := 2) sc_first_row.nd rfl (Or.inl rfl))
      (pss_one (ps_if (pt_cmpR (op_neK K rfl hr.units) (pe_ix (ix_K K rfl) (pe_ix (ix_K K rfl) (pv 0) (pv 2) (fun _ _ => rfl)) (pv 1) (fun _ _ => rfl)) pe_int (nomark _))
      (pss_one (ps_ret (pv 2))) pss_nil))))
      (pss_one (ps_ret pe_non))), ?_⟩
  refine run_forR2 (a := (a : Int)) (k := (n : Int)) (fun j env => env = [.val false (rowsD R), .val false (natD a), .un] ∧ ∀ i, a ≤ i → i < a + j → ent R i a = 0) (jv_var rfl rfl) ?_ (by omega) (by omega) (by omega) (by omega) ⟨rfl, fun i h1 h2 => by omega⟩ (fun j env1 hj i1 => ?_) (fun env1 i1 => ?_)
  · refine (jv_len (js_var rfl)).eqV ?_
    rw [List.length_map, sq.len]
  · have hj' : a + j < n := by omega
    rw [i1.1]
    show Run _ _ _ [.val false (rowsD R), .val false (natD a), .val true (natD (a + j))]
    · refine run_one (run_if (b := !decide (ent R (a + j) a = 0)) ?_ (fun e => ?_) (fun e => ?_))
      case refine_1 =>
        have h1 : JD K (tOp (rIx K) (tVar 0) (tVar 2)) [.val false (rowsD R), .val false (natD a), .val true (natD (a + j))] false (rowD (R.getD (a + j) [])) := jd_ixE (a + j) [] (js_var rfl) (jv_var rfl rfl) rfl (by rw [sq.len]; exact hj')
        have h2 : JD K (tOp (rIx K) (tOp (rIx K) (tVar 0) (tVar 2)) (tVar 1)) [.val false (rowsD R), .val false (natD a), .val true (natD (a + j))] false (.int ((R.getD (a + j) []).getD a 0)) := jd_ixE (enc := PyData.int) a 0 h1.dS (jv_var rfl rfl) rfl (by rw [sq.at hj']; exact han)
        exact jt_test (jv_neI (h2.toV rfl) jv_c)
      · refine run_retSeq (run_ret (n := true) (jd_var rfl) (ho (.val (natD (a + j))) ⟨n, a, R, rfl, sq, .inr ⟨a + j, by omega, hj', by simpa using e, rfl⟩⟩))
      · refine run_next (run_loopW ⟨rfl, fun i h1 h2 => ?_⟩ (by walk_at "less"))
        by_cases z : i = a + j
        · rw [z]; simpa using e
        · exact i1.2 i h1 (by omega)
  · have e : a + ((n : Int) - (a : Int)).toNat = n := by omega
    have all := i1.2
    rw [e] at all
    rw [i1.1]
    refine run_ret (n := true) (Jd.ofV (d := .none) jv_c rfl) (ho (.val .none) ⟨n, a, R, rfl, sq, .inl ⟨rfl, all⟩⟩)

end
end Tr

namespace Tr
open PySem L2 DL TT
local macro_rules | `(tactic| walk_at "jv") => `(tactic| first
  | exact jv_c
  | exact jv_var rfl rfl
  | ((with_reducible refine' jv_add ?a ?b); (case a => walk_at "jv"); (case b => walk_at "jv"))
  | ((with_reducible refine' jv_sub ?a ?b); (case a => walk_at "jv"); (case b => walk_at "jv"))
  | ((with_reducible refine' jv_lt ?a ?b); (case a => walk_at "jv"); (case b => walk_at "jv"))
  | ((with_reducible refine' jv_le ?a ?b); (case a => walk_at "jv"); (case b => walk_at "jv"))
  | ((with_reducible refine' jv_gt ?a ?b); (case a => walk_at "jv"); (case b => walk_at "jv"))
  | ((with_reducible refine' jv_ge ?a ?b); (case a => walk_at "jv"); (case b => walk_at "jv"))
  | ((with_reducible refine' jv_eqI ?a ?b); (case a => walk_at "jv"); (case b => walk_at "jv"))
  | ((with_reducible refine' jv_neI ?a ?b); (case a => walk_at "jv"); (case b => walk_at "jv"))
  | ((with_reducible refine' jv_chain ?a ?b ?c); (case a => walk_at "jv"); (case b => walk_at "jv"); (case c => walk_at "jv"))
  | ((with_reducible refine' jv_not ?a); (case a => walk_at "jv"))
  | ((with_reducible refine' jv_len ?a); (case a => walk_at "js"))
  | ((with_reducible refine' jv_lenU ?a); (case a => walk_at "ju"))
  | ((with_reducible refine' jv_min2 ?a ?b); (case a => walk_at "jv"); (case b => walk_at "jv"))
  | ((with_reducible refine' jv_max2 ?a ?b); (case a => walk_at "jv"); (case b => walk_at "jv"))
  | assumption)
local macro_rules | `(tactic| walk_at "js") => `(tactic| first
  | exact js_var rfl
  | exact js_own rfl
  | exact Jd.lowS (js_var rfl)
  | assumption
  | exact Jd.nS (by assumption))
local macro_rules | `(tactic| walk_at "ju") => `(tactic| first
  | exact ju_var rfl
  | assumption)
local macro_rules | `(tactic| walk_at "jd") => `(tactic| first
  | exact jd_var rfl
  | exact Jd.low (jd_var rfl)
  | exact Jd.low (by assumption)
  | assumption
  | ((refine' Jd.int (Jd.eqV ?a ?b)); (case a => walk_at "jv"); (case b => first | rfl | (congr 1; omega)))
  | ((refine' Jd.bool ?a); (case a => walk_at "jv")))
local macro_rules | `(tactic| walk_at "jf") => `(tactic| first
  | exact jf_nil
  | ((with_reducible refine' jf_cons ?a ?b); (case a => walk_at "jd"); (case b => walk_at "jf")))
local macro_rules | `(tactic| walk_at "less") => `(tactic| first
  | exact LessI.nil
  | (refine LessI.keep ?_; walk_at "less")
  | (refine LessI.drop ?_; walk_at "less"))
local macro_rules | `(tactic| walk_at "loop") => `(tactic| (refine' run_loopW ?x ?y; (case x => exact rfl); (case y => walk_at "less")))

section
variable {P : Program} {w : World} {K : PySem.W.Frag} {mg : Str → Option Value} {base : Heap}

def preSwept (ds : List D) : Prop := ∃ (n a : Nat) (R : List (List Int)) (last : Int), ds = [rowsD R, natD a, .int last] ∧ Sq n R ∧ n ≤ 8 ∧ a < n ∧ last ≠ 0 ∧ last.natAbs ≤ 2 ^ 504 ∧ ∀ i j, a ≤ i → i < n → j < n → (ent R i j).natAbs ≤ 2 ^ 504
def postSwept (ds : List D) (out : Out) : Prop := ∃ (a : Nat) (R : List (List Int)) (last : Int), ds = [rowsD R, natD a, .int last] ∧ out = .new ((sweptL R a last).map rowD)
theorem ok_swept (T : Tx K mg) : FnOk P w K mg base (L2.CX P w) 1 T.a_swept T.d_swept ["rows", "at", "last"] (spD K T.cl [true, false, false] true preSwept postSwept) := by
  refine fnD T.F_swept sc_swept rfl fun cdv A outer s E M B H Q ds hr hp wf ho => ?_
  obtain ⟨n, a, R, last, rfl, sq, n8, han, l0, lb, rb⟩ := hp
  refine ⟨_, (pss_cons (ps_set (i := 3) sc_swept.nd rfl (Or.inr rfl) (pe_ix (ix_K K rfl) (pv 0) (pv 1) (fun _ _ => rfl)))
      (pss_cons (ps_set (i := 4) sc_swept.nd rfl (Or.inl rfl) (pe_lst pa_nil))
      (pss_cons (PS.nox (ps_for PassesOwn.never rfl (list_pi K rfl (pe_slice (sl_K K rfl) (pv 0) (po_some (pe_op op_addD (pv 1) pe_int)) po_none)) (pg_name (i := 5) sc_swept.nd rfl (Or.inr rfl))
      (pss_one (ps_expr (bm_K K rfl PySem.F.plainAttrs_list PySem.F.slot_list_append PySem.F.type_list_append mt_append (pv 4) (pa_cons (pe_lc (own := [("k", 6)]) rfl sc_swept.nd (pi_range1 (by rfl) T.n_range (pa_cons (pe_callB (len_K K rfl) (by rfl) T.n_len (by decide +kernel) (pa_cons (pv 5) pa_nil)) pa_nil)) (blkOk_by (own := [("k", 6)]) (N := ["rows", "at", "last", "top", "found", "row", "k"]) (sc := defScope s_swept) (by decide +kernel)) (fun _ _ _ _ _ => (pg_name (i := 6) sc_swept.nd rfl (Or.inl rfl))) (fun _ _ _ _ _ => pts_nil) (fun _ _ _ _ _ => (pe_op op_fdivA (pe_op op_sub (pe_op op_mulD (pe_ix (ix_K K rfl) (pv 5) (pv 6) (fun _ _ => rfl)) (pe_ix (ix_K K rfl) (pv 3) (pv 1) (fun _ _ => rfl))) (pe_op op_mulD (pe_ix (ix_K K rfl) (pv 5) (pv 1) (fun _ _ => rfl)) (pe_ix (ix_K K rfl) (pv 3) (pv 6) (fun _ _ => rfl)))) (pv 2)))) pa_nil))))))
      (pss_one (ps_ret (pe_op op_addD (pe_slice (sl_K K rfl) (pv 0) po_none (po_some (pe_op op_addD (pv 1) pe_int))) (pv 4))))))), ?_⟩
  have hl := sq.len
  have ret := ho (.new ((sweptL R a last).map rowD)) ⟨a, R, last, rfl, rfl⟩
  refine run_set (n := true) (d := rowD (R.getD a [])) (jd_ixE a [] (js_var rfl) (jv_var rfl rfl) rfl (by omega)) ?_
  refine run_setN (n := true) (ds := []) (jn_lst ja_nil (Nat.zero_le _)) ?_
  have sl : JN K (tSl (rSlL K) (tVar 0) (tPart (tOp rAddD (tVar 1) (tC (.int 1)))) tNoPart) [.val true (rowsD R), .val false (natD a), .val false (.int last), .val true (rowD (R.getD a [])), .own true [], .un, .un] true ((R.drop (a + 1)).map rowD) := by
    refine (jn_slice (js_var rfl) (jo_some (jv_add (jv_var rfl rfl) jv_c)) jo_none).eqN ?_
    rw [cutG_map]
    congr 1
    exact cutG_from R (a + 1)
  refine run_forL (enc := rowD) (R.drop (a + 1)) (fun k env => env = [.val true (rowsD R), .val false (natD a), .val false (.int last), .val true (rowD (R.getD a [])), .own true ((((R.drop (a + 1)).take k).map fun row => sweptRow (R.getD a []) row a last).map rowD), .un, .un]) sl.nD rfl (fun hb k x env1 hx e1 => ?_) (fun env1 e1 => ?_)
  · subst e1
    refine ⟨_, _, tg_name, ?_⟩
    have hk : k < (R.drop (a + 1)).length := (List.getElem?_eq_some_iff.mp hx).1
    have hk' : a + 1 + k < n := by rw [List.length_drop] at hk; omega
    have ex : x = R.getD (a + 1 + k) [] := by
      rw [List.getElem?_drop] at hx
      rw [List.getD_eq_getElem?_getD, hx]; rfl
    have xl : x.length = n := by rw [ex]; exact sq.at hk'
    have tl : (R.getD a []).length = n := sq.at han
    have bx : ∀ j, j < n → (x.getD j 0).natAbs ≤ 2 ^ 504 := fun j hj => by rw [ex]; exact rb _ j (by omega) hk' hj
    have bt : ∀ j, j < n → ((R.getD a []).getD j 0).natAbs ≤ 2 ^ 504 := fun j hj => rb _ j (by omega) han hj
    refine run_one (run_appendE rfl (d := rowD (sweptRow (R.getD a []) x a last)) ?_ ?_ (by walk_at "loop") ?_)
    · refine ((jn_mapR (k := (n : Int)) (fun j => .int ((x.getD j 0 * (R.getD a []).getD a 0 - x.getD a 0 * (R.getD a []).getD j 0).fdiv last)) ((jv_len (js_var rfl)).eqV (by rw [List.length_map, xl])) (by omega) (by omega) fun j hj => ⟨_, tg_name, ?_⟩).eqN ?_).nD
      · have hj' : j < n := by omega
        have g1 : ∀ env, env[5]? = some (.val true (rowD x)) → env[6]? = some (.val true (natD j)) → JV K (tOp (rIx K) (tVar 5) (tVar 6)) env (.int (x.getD j 0)) := fun env a b => (jd_ixE (enc := PyData.int) j 0 (js_var a) (jv_var b rfl) rfl (by omega)).toV rfl
        have g2 : ∀ env, env[5]? = some (.val true (rowD x)) → env[1]? = some (.val false (natD a)) → JV K (tOp (rIx K) (tVar 5) (tVar 1)) env (.int (x.getD a 0)) := fun env p b => (jd_ixE (enc := PyData.int) a 0 (js_var p) (jv_var b rfl) rfl (by omega)).toV rfl
        have g3 : ∀ env, env[3]? = some (.val true (rowD (R.getD a []))) → env[1]? = some (.val false (natD a)) → JV K (tOp (rIx K) (tVar 3) (tVar 1)) env (.int ((R.getD a []).getD a 0)) := fun env p b => (jd_ixE (enc := PyData.int) a 0 (js_var p) (jv_var b rfl) rfl (by omega)).toV rfl
        have g4 : ∀ env, env[3]? = some (.val true (rowD (R.getD a []))) → env[6]? = some (.val true (natD j)) → JV K (tOp (rIx K) (tVar 3) (tVar 6)) env (.int ((R.getD a []).getD j 0)) := fun env p b => (jd_ixE (enc := PyData.int) j 0 (js_var p) (jv_var b rfl) rfl (by omega)).toV rfl
        refine Jd.int (jv_fdiv (jv_sub (jv_mulW (g1 _ rfl rfl) (g3 _ rfl rfl) (cmul504 (bx j hj') (bt a han))) (jv_mulW (g2 _ rfl rfl) (g4 _ rfl rfl) (cmul504 (bx a han) (bt j hj')))) (jv_var rfl rfl) (cdiv504 l0 lb))
      · rw [Int.toNat_natCast]
        unfold sweptRow
        rw [List.map_map, xl]
        rfl
    · rw [List.length_map, List.length_map, List.length_take]
      rw [List.length_drop] at hk ⊢
      omega
    · rw [List.take_add_one, hx, List.map_append, List.map_append]
      rfl
  · subst e1
    rw [List.take_length]
    refine run_retN ((jn_cat (n := true) (ds := (R.take (a + 1)).map rowD) ?_ (js_own rfl) ?_).eqN ?_) ret
    · refine ((jn_slice (js_var rfl) jo_none (jo_some (jv_add (jv_var rfl rfl) jv_c))).eqN ?_).nS
      rw [cutG_map]
      congr 1
      exact cutG_to R (a + 1)
    · simp only [List.length_map, List.length_take, List.length_drop]
      omega
    · rw [← List.map_append]
      rfl

end
end Tr

namespace Tr
open PySem L2 DL TT
local macro_rules | `(tactic| walk_at "jv") => `(tactic| first
  | exact jv_c
  | exact jv_var rfl rfl
  | ((with_reducible refine' jv_add ?a ?b); (case a => walk_at "jv"); (case b => walk_at "jv"))
  | ((with_reducible refine' jv_sub ?a ?b); (case a => walk_at "jv"); (case b => walk_at "jv"))
  | ((with_reducible refine' jv_lt ?a ?b); (case a => walk_at "jv"); (case b => walk_at "jv"))
  | ((with_reducible refine' jv_le ?a ?b); (case a => walk_at "jv"); (case b => walk_at "jv"))
  | ((with_reducible refine' jv_gt ?a ?b); (case a => walk_at "jv"); (case b => walk_at "jv"))
  | ((with_reducible refine' jv_ge ?a ?b); (case a => walk_at "jv"); (case b => walk_at "jv"))
  | ((with_reducible refine' jv_eqI ?a ?b); (case a => walk_at "jv"); (case b => walk_at "jv"))
  | ((with_reducible refine' jv_neI ?a ?b); (case a => walk_at "jv"); (case b => walk_at "jv"))
  | ((with_reducible refine' jv_chain ?a ?b ?c); (case a => walk_at "jv"); (case b => walk_at "jv"); (case c => walk_at "jv"))
  | ((with_reducible refine' jv_not ?a); (case a => walk_at "jv"))
  | ((with_reducible refine' jv_len ?a); (case a => walk_at "js"))
  | ((with_reducible refine' jv_lenU ?a); (case a => walk_at "ju"))
  | ((with_reducible refine' jv_min2 ?a ?b); (case a => walk_at "jv"); (case b => walk_at "jv"))
  | ((with_reducible refine' jv_max2 ?a ?b); (case a => walk_at "jv"); (case b => walk_at "jv"))
  | assumption)
local macro_rules | `(tactic| walk_at "js") => `(tactic| first
  | exact js_var rfl
  | exact js_own rfl
  | exact Jd.lowS (js_var rfl)
  | assumption
  | exact Jd.nS (by assumption))
local macro_rules | `(tactic| walk_at "ju") => `(tactic| first
  | exact ju_var rfl
  | assumption)
local macro_rules | `(tactic| walk_at "jd") => `(tactic| first
  | exact jd_var rfl
  | exact Jd.low (jd_var rfl)
  | exact Jd.low (by assumption)
  | assumption
  | ((refine' Jd.int (Jd.eqV ?a ?b)); (case a => walk_at "jv"); (case b => first | rfl | (congr 1; omega)))
  | ((refine' Jd.bool ?a); (case a => walk_at "jv")))
local macro_rules | `(tactic| walk_at "jf") => `(tactic| first
  | exact jf_nil
  | ((with_reducible refine' jf_cons ?a ?b); (case a => walk_at "jd"); (case b => walk_at "jf")))
local macro_rules | `(tactic| walk_at "less") => `(tactic| first
  | exact LessI.nil
  | (refine LessI.keep ?_; walk_at "less")
  | (refine LessI.drop ?_; walk_at "less"))
local macro_rules | `(tactic| walk_at "loop") => `(tactic| (refine' run_loopW ?x ?y; (case x => exact rfl); (case y => walk_at "less")))

section
variable {P : Program} {w : World} {K : PySem.W.Frag} {mg : Str → Option Value} {base : Heap}

def preWorth (ds : List D) : Prop := ∃ (n : Nat) (R : List (List Int)), ds = [rowsD R] ∧ Small n R
def postWorth (ds : List D) (out : Out) : Prop := ∃ (n : Nat) (R : List (List Int)), ds = [rowsD R] ∧ Small n R ∧ out = .val (.int (det n (ent R)))
def envW (R : List (List Int)) (side last : Int) (a b : Sl) : List Sl := [.val true (rowsD R), .un, .val true (.int side), .val true (.int last), a, b]
theorem swap_JD {R : List (List Int)} {n a k : Nat} (sq : Sq n R) (n8 : n ≤ 8) (h1 : a < k) (h2 : k < n) {side last : Int} :
    JD K (tOp rAddD (tOp rAddD (tOp rAddD (tOp rAddD (tSl (rSlL K) (tVar 0) tNoPart (tPart (tVar 4))) (tLst (tCons (tOp (rIx K) (tVar 0) (tVar 5)) tNil))) (tSl (rSlL K) (tVar 0) (tPart (tOp rAddD (tVar 4) (tC (.int 1)))) (tPart (tVar 5)))) (tLst (tCons (tOp (rIx K) (tVar 0) (tVar 4)) tNil))) (tSl (rSlL K) (tVar 0) (tPart (tOp rAddD (tVar 5) (tC (.int 1)))) tNoPart))
      (envW R side last (.val true (natD a)) (.val true (natD k))) true (rowsD (swapL R a k)) := by
  have hl := sq.len
  have s1 : JS K (tSl (rSlL K) (tVar 0) tNoPart (tPart (tVar 4))) (envW R side last (.val true (natD a)) (.val true (natD k))) true ((R.take a).map rowD) := by
    refine ((jn_slice (js_var rfl) jo_none (jo_some (jv_var rfl rfl))).eqN ?_).nS
    rw [cutG_map]
    congr 1
    exact cutG_to R a
  have s2 : JS K (tLst (tCons (tOp (rIx K) (tVar 0) (tVar 5)) tNil)) (envW R side last (.val true (natD a)) (.val true (natD k))) true ([R.getD k []].map rowD) := by
    refine (jn_lst (ja_cons (jd_ixE k [] (js_var rfl) (jv_var rfl rfl) rfl (by omega)) ja_nil) (by simp)).nS
  have s3 : JS K (tSl (rSlL K) (tVar 0) (tPart (tOp rAddD (tVar 4) (tC (.int 1)))) (tPart (tVar 5))) (envW R side last (.val true (natD a)) (.val true (natD k))) true (((R.drop (a + 1)).take (k - (a + 1))).map rowD) := by
    refine ((jn_slice (js_var rfl) (jo_some (jv_add (jv_var rfl rfl) jv_c)) (jo_some (jv_var rfl rfl))).eqN ?_).nS
    rw [cutG_map]
    congr 1
    exact cutG_mid R (a + 1) k (by omega)
  have s4 : JS K (tLst (tCons (tOp (rIx K) (tVar 0) (tVar 4)) tNil)) (envW R side last (.val true (natD a)) (.val true (natD k))) true ([R.getD a []].map rowD) := by
    refine (jn_lst (ja_cons (jd_ixE a [] (js_var rfl) (jv_var rfl rfl) rfl (by omega)) ja_nil) (by simp)).nS
  have s5 : JS K (tSl (rSlL K) (tVar 0) (tPart (tOp rAddD (tVar 5) (tC (.int 1)))) tNoPart) (envW R side last (.val true (natD a)) (.val true (natD k))) true ((R.drop (k + 1)).map rowD) := by
    refine ((jn_slice (js_var rfl) (jo_some (jv_add (jv_var rfl rfl) jv_c)) jo_none).eqN ?_).nS
    rw [cutG_map]
    congr 1
    exact cutG_from R (k + 1)
  have z : ∀ j, (R.take j).length ≤ 8 := fun j => by rw [List.length_take]; omega
  refine ((jn_cat (jn_cat (jn_cat (jn_cat s1 s2 ?_).nS s3 ?_).nS s4 ?_).nS s5 ?_).eqN ?_).nD
  iterate 4 (simp only [List.length_append, List.length_map, List.length_take, List.length_drop, List.length_cons, List.length_nil]; omega)
  · rw [← List.map_append, ← List.map_append, ← List.map_append, ← List.map_append]
    rfl
theorem ok_worth_of (T : Tx K mg) : FnOk P w K mg base (L2.CX P w) 2 T.a_worth_of T.d_worth_of ["rows"] (spD K T.cl [false] true preWorth postWorth) := by
  refine fnD T.F_worth_of sc_worth_of rfl fun cdv A outer s E M B H Q ds hr hp wf ho => ?_
  obtain ⟨n, R, rfl, sm⟩ := hp
  refine ⟨_, (pss_cons (ps_setLc (i := 0) (own := [("row", 1)]) rfl sc_worth_of.nd rfl rfl (sw_true rfl rfl rfl (by decide +kernel)) (list_pi K rfl (pv 0)) (blkOk_by (own := [("row", 1)]) (N := ["rows", "row", "side", "last", "at", "k"]) (sc := defScope s_worth_of) (by decide +kernel)) (fun _ _ _ _ _ => (pg_name (i := 1) sc_worth_of.nd rfl (Or.inl rfl))) (fun _ _ _ _ _ => pts_nil) (fun _ _ _ _ _ => (pe_callTy (list_K K rfl) (by rfl) T.n_list (by decide +kernel) (pa_cons (pv 1) pa_nil))))
      (pss_cons (ps_set (i := 2) sc_worth_of.nd rfl (Or.inl rfl) pe_int)
      (pss_cons (ps_set (i := 3) sc_worth_of.nd rfl (Or.inl rfl) pe_int)
      (pss_cons (PS.nox (ps_for PassesOwn.never rfl (pi_range1 (by rfl) T.n_range (pa_cons (pe_callB (len_K K rfl) (by rfl) T.n_len (by decide +kernel) (pa_cons (pv 0) pa_nil)) pa_nil)) (pg_name (i := 4) sc_worth_of.nd rfl (Or.inl rfl))
      (pss_cons (ps_set (i := 5) sc_worth_of.nd rfl (Or.inl rfl) (pe_call (ok_first_row T) (hr.mono (by decide)) (by rfl) T.g_first_row T.F_first_row.kp T.b_first_row .nil passL (pa_cons (pv 0) (pa_cons (pv 4) pa_nil))))
      (pss_cons (ps_if (pt_cmp (pc_isN (pv 5)) rfl)
      (pss_one (ps_ret pe_int)) pss_nil)
      (pss_cons (ps_if (pt_cmpR (op_neK K rfl hr.units) (pv 5) (pv 4) (nomark _))
      (pss_cons (ps_set (i := 0) sc_worth_of.nd rfl (Or.inl rfl) (pe_op op_addD (pe_op op_addD (pe_op op_addD (pe_op op_addD (pe_slice (sl_K K rfl) (pv 0) po_none (po_some (pv 4))) (pe_lst (pa_cons (pe_ix (ix_K K rfl) (pv 0) (pv 5) (fun _ _ => rfl)) pa_nil))) (pe_slice (sl_K K rfl) (pv 0) (po_some (pe_op op_addD (pv 4) pe_int)) (po_some (pv 5)))) (pe_lst (pa_cons (pe_ix (ix_K K rfl) (pv 0) (pv 4) (fun _ _ => rfl)) pa_nil))) (pe_slice (sl_K K rfl) (pv 0) (po_some (pe_op op_addD (pv 5) pe_int)) po_none)))
      (pss_one (ps_set (i := 2) sc_worth_of.nd rfl (Or.inl rfl) (pe_un un_neg (pv 2))))) pss_nil)
      (pss_cons (ps_set (i := 0) sc_worth_of.nd rfl (Or.inl rfl) (pe_call (ok_swept T) (hr.mono (by decide)) (by rfl) T.g_swept T.F_swept.kp T.b_swept .nil passL (pa_cons (pv 0) (pa_cons (pv 4) (pa_cons (pv 3) pa_nil)))))
      (pss_one (ps_set (i := 3) sc_worth_of.nd rfl (Or.inl rfl) (pe_ix (ix_K K rfl) (pe_ix (ix_K K rfl) (pv 0) (pv 4) (fun _ _ => rfl)) (pv 4) (fun _ _ => rfl))))))))))
      (pss_one (ps_ret (pe_op op_mulD (pv 2) (pv 3)))))))), ?_⟩
  have ret : ∀ z : Int, z = det n (ent R) → OutOk K T.cl M B true H Q E (.val (.int z)) := fun z e => by
    rw [e]
    exact ho _ ⟨n, R, rfl, sm, rfl⟩
  have n8 := sm.le
  refine run_set (n := true) (d := rowsD R) ((jn_mapL (enc := rowD) R rowD (js_var rfl) (by have := sm.sq.len; omega) fun x hx => ⟨_, tg_name, (Jd.intsN (jn_list (js_var rfl))).nD.eqD rfl⟩).nD) ?_
  refine run_setI jv_c ?_
  refine run_setI jv_c ?_
  refine run_forR (k := (n : Int)) (fun j env => ∃ R' side last, env = envW R' side last .un .un ∧ Sq n R' ∧ (side = 1 ∨ side = -1) ∧ BInv n j (ent R) (ent R') side last) ?_ (by omega) (by omega) ⟨R, 1, 1, rfl, sm.sq, .inl rfl, .start n _⟩ (fun j env1 hj i1 => ?_) (fun env1 i1 => ?_)
  · refine (jv_len (js_var rfl)).eqV ?_
    rw [List.length_map, sm.sq.len]
  · obtain ⟨R', side, last, rfl, sq, hs, bi⟩ := i1
    have hj' : j < n := by omega
    refine run_setP (n := true) (jd_callP (p := fun d => (d = .none ∧ ∀ i, j ≤ i → i < n → ent R' i j = 0) ∨ ∃ k, j ≤ k ∧ k < n ∧ ent R' k j ≠ 0 ∧ d = natD k) (by walk_at "jf") ⟨n, j, R', rfl, sq, n8, hj'⟩ fun out po => ?_) fun d hd => ?_
    · obtain ⟨n', a', R'', e, sq', po⟩ := po
      obtain ⟨e1, e2⟩ := one_cons e
      obtain rfl := rowsD_inj e1
      obtain rfl := natD_inj (one_cons e2).1
      obtain rfl := sq_uniq sq sq'
      rcases po with ⟨rfl, hz⟩ | ⟨k, k1, k2, k3, rfl⟩
      · exact ⟨_, .inl ⟨rfl, hz⟩, .inl rfl⟩
      · exact ⟨_, .inr ⟨k, k1, k2, k3, rfl⟩, .inl rfl⟩
    · rcases hd with ⟨rfl, hz⟩ | ⟨k, k1, k2, k3, rfl⟩
      · refine run_if (b := true) (jt_B ((jv_isN (jv_var rfl rfl)).eqV rfl)) (fun _ => ?_) (fun e => nomatch e)
        exact run_retSeq (run_retV jv_c rfl (ret 0 (bi.none hj' hz).symm))
      · refine run_if (b := false) (jt_B ((jv_isN (v := .int (k : Int)) (jv_var rfl rfl)).eqV rfl)) (fun e => nomatch e) (fun _ => run_next ?_)
        have neg1 : side = 1 ∨ side = -1 → -side = 1 ∨ -side = -1 := fun z => by omega
        refine run_ifJ (b := !decide ((k : Int) = (j : Int))) (fun env' => ∃ R1 s1, env' = envW R1 s1 last (.val true (natD j)) (.val true (natD k)) ∧ Sq n R1 ∧ (s1 = 1 ∨ s1 = -1) ∧ BInv n j (ent R) (ent R1) s1 last ∧ ent R1 j j ≠ 0) (jt_test (jv_neI (jv_var rfl rfl) (jv_var rfl rfl))) (fun env' ⟨R1, s1, e1, sq1, hs1, b1, piv⟩ => ?_) (fun go c => ?_) (fun go c => ?_)
        · subst e1
          have nb : ∀ i j', j ≤ i → i < n → j' < n → (ent R1 i j').natAbs ≤ 2 ^ 504 := fun i j' x y z => b1.big sm hj' x y z
          refine run_set (n := true) (d := rowsD (sweptL R1 j last)) (jd_call (by walk_at "jf") ⟨n, j, R1, last, rfl, sq1, n8, hj', b1.ne, b1.lastBig sm (by omega), nb⟩ fun out ⟨a', R2, l2, e, po⟩ => ?_) ?_
          · obtain ⟨e1, e2⟩ := one_cons e
            obtain ⟨e2, e3⟩ := one_cons e2
            obtain rfl := rowsD_inj e1
            obtain rfl := natD_inj e2
            obtain rfl := PyData.int.inj (one_cons e3).1
            exact .inr ⟨_, rfl, po⟩
          · have sq2 := sweptL_sq (last := last) sq1 hj'
            have low : ent (sweptL R1 j last) j j = ent R1 j j := by
              show ((sweptL R1 j last).getD j []).getD j 0 = _
              rw [sweptL_low sq1 hj' (Nat.le_refl j)]
              rfl
            have h1 : JD K (tOp (rIx K) (tVar 0) (tVar 4)) (envW (sweptL R1 j last) s1 last (.val true (natD j)) (.val true (natD k))) true (rowD ((sweptL R1 j last).getD j [])) := jd_ixE j [] (js_var rfl) (jv_var rfl rfl) rfl (by rw [sq2.len]; exact hj')
            have h2 : JD K (tOp (rIx K) (tOp (rIx K) (tVar 0) (tVar 4)) (tVar 4)) (envW (sweptL R1 j last) s1 last (.val true (natD j)) (.val true (natD k))) true (.int (ent R1 j j)) := (jd_ixE (enc := PyData.int) j 0 h1.dS (jv_var rfl rfl) rfl (by rw [sq2.at hj']; exact hj')).eqD (congrArg PyData.int low)
            refine run_one (run_setI (h2.toV rfl) (run_loopW (env' := envW (sweptL R1 j last) s1 (ent R1 j j) .un .un) ⟨_, _, _, rfl, sq2, hs1, ?_⟩ (by walk_at "less")))
            exact b1.sweep hj' piv fun i j' x y z => sweptL_ent sq1 hj' x y z
        · have c' : k ≠ j := fun z => by rw [z] at c; simp at c
          refine run_assoc (run_set (swap_JD sq n8 (by omega) k2) (run_setI (jv_U (jv_var rfl rfl)) (go _ ⟨_, _, rfl, swapL_sq sq (by omega) k2, neg1 hs, ?_, ?_⟩)))
          · exact (bi.swap k1 k2 c').congr (by omega) fun i j' hi _ => swapL_ent sq (by omega) k2 hi j'
          · rw [swapL_ent sq (by omega) k2 hj' j]
            show ent R' (if j = j then k else _) j ≠ 0
            rw [if_pos rfl]
            exact k3
        · have c' : k = j := by simp at c; omega
          subst c'
          exact run_next (go _ ⟨_, _, rfl, sq, hs, bi, k3⟩)
  · obtain ⟨R', side, last, rfl, sq, hs, bi⟩ := i1
    refine run_retV (v := .int (side * last)) (n := true) (d := .int (side * last)) (jv_mulW (jv_var rfl rfl) (jv_var rfl rfl) ?_) rfl (ret _ bi.fin)
    have l1 := bi.lastBig sm (by omega)
    have hs' : side.natAbs ≤ 2 ^ 504 := by
      have p1 : 1 ≤ 2 ^ 504 := Nat.one_le_two_pow
      rcases hs with rfl | rfl <;> exact p1
    exact cmul504 hs' l1

end
end Tr

namespace Tr
open PySem L2 DL TT
local macro_rules | `(tactic| walk_at "jv") => `(tactic| first
  | exact jv_c
  | exact jv_var rfl rfl
  | ((with_reducible refine' jv_add ?a ?b); (case a => walk_at "jv"); (case b => walk_at "jv"))
  | ((with_reducible refine' jv_sub ?a ?b); (case a => walk_at "jv"); (case b => walk_at "jv"))
  | ((with_reducible refine' jv_lt ?a ?b); (case a => walk_at "jv"); (case b => walk_at "jv"))
  | ((with_reducible refine' jv_le ?a ?b); (case a => walk_at "jv"); (case b => walk_at "jv"))
  | ((with_reducible refine' jv_gt ?a ?b); (case a => walk_at "jv"); (case b => walk_at "jv"))
  | ((with_reducible refine' jv_ge ?a ?b); (case a => walk_at "jv"); (case b => walk_at "jv"))
  | ((with_reducible refine' jv_eqI ?a ?b); (case a => walk_at "jv"); (case b => walk_at "jv"))
  | ((with_reducible refine' jv_neI ?a ?b); (case a => walk_at "jv"); (case b => walk_at "jv"))
  | ((with_reducible refine' jv_chain ?a ?b ?c); (case a => walk_at "jv"); (case b => walk_at "jv"); (case c => walk_at "jv"))
  | ((with_reducible refine' jv_not ?a); (case a => walk_at "jv"))
  | ((with_reducible refine' jv_len ?a); (case a => walk_at "js"))
  | ((with_reducible refine' jv_lenU ?a); (case a => walk_at "ju"))
  | ((with_reducible refine' jv_min2 ?a ?b); (case a => walk_at "jv"); (case b => walk_at "jv"))
  | ((with_reducible refine' jv_max2 ?a ?b); (case a => walk_at "jv"); (case b => walk_at "jv"))
  | assumption)
local macro_rules | `(tactic| walk_at "js") => `(tactic| first
  | exact js_var rfl
  | exact js_own rfl
  | exact Jd.lowS (js_var rfl)
  | assumption
  | exact Jd.nS (by assumption))
local macro_rules | `(tactic| walk_at "ju") => `(tactic| first
  | exact ju_var rfl
  | assumption)
local macro_rules | `(tactic| walk_at "jd") => `(tactic| first
  | exact jd_var rfl
  | exact Jd.low (jd_var rfl)
  | exact Jd.low (by assumption)
  | assumption
  | ((refine' Jd.int (Jd.eqV ?a ?b)); (case a => walk_at "jv"); (case b => first | rfl | (congr 1; omega)))
  | ((refine' Jd.bool ?a); (case a => walk_at "jv")))
local macro_rules | `(tactic| walk_at "jf") => `(tactic| first
  | exact jf_nil
  | ((with_reducible refine' jf_cons ?a ?b); (case a => walk_at "jd"); (case b => walk_at "jf")))
local macro_rules | `(tactic| walk_at "less") => `(tactic| first
  | exact LessI.nil
  | (refine LessI.keep ?_; walk_at "less")
  | (refine LessI.drop ?_; walk_at "less"))
local macro_rules | `(tactic| walk_at "loop") => `(tactic| (refine' run_loopW ?x ?y; (case x => exact rfl); (case y => walk_at "less")))

section
variable {P : Program} {w : World} {K : PySem.W.Frag} {mg : Str → Option Value} {base : Heap}

def outTally (n : Nat) (ts : List Tie) (out : Out) : Prop := out = .val (natD (TT.T n ts))
theorem ok_tally (T : Tx K mg) : FnOk P w K mg base (L2.CX P w) 5 T.a_tally T.d_tally ["many", "ties"] (spD K T.cl [false, false] true preNet (postOr outTally)) := by
  refine fnD T.F_tally sc_tally rfl fun cdv A outer s E M B H Q ds hr hp wf ho => ?_
  obtain ⟨m, t, rfl, hm, ht⟩ := hp
  refine ⟨_, (pss_one (ps_ret (pe_callS (ok_worth_of T) (hr.mono (by decide)) (by rfl) T.g_worth_of T.F_worth_of.kp T.b_worth_of (fun σ => passAt (takes_of rfl rfl rfl rfl) σ) (pa_cons (pe_lc (own := [("row", 2)]) rfl sc_tally.nd (list_pi K rfl (pe_slice (sl_K K rfl) (pe_callS (ok_table_of T) (hr.mono (by decide)) (by rfl) T.g_table_of T.F_table_of.kp T.b_table_of (fun σ => passAt (takes_of rfl rfl rfl rfl) σ) (pa_cons (pv 0) (pa_cons (pv 1) pa_nil))) (po_some pe_int) po_none)) (blkOk_by (own := [("row", 2)]) (N := ["many", "ties", "row"]) (sc := defScope s_tally) (by decide +kernel)) (fun _ _ _ _ _ => (pg_name (i := 2) sc_tally.nd rfl (Or.inl rfl))) (fun _ _ _ _ _ => pts_nil) (fun _ _ _ _ _ => (pe_slice (sl_K K rfl) (pv 2) (po_some pe_int) po_none))) pa_nil)))), ?_⟩
  cases hn : isNet m t with
  | false =>
    exact run_retE (er_args (er_first (er_lcL (er_sl (er_call (by walk_at "jf") ⟨m, t, rfl, hm, ht⟩ fun out po => postOr_bad hn po))))) fun H' s => ho _ ⟨m, t, rfl, .inl ⟨hn, rfl⟩⟩ H' s
  | true =>
    obtain ⟨n, ts, rfl, rfl, nk⟩ := isNet_inv hn
    have l1 := nk.le
    have l2 := nk.len
    obtain ⟨k, rfl⟩ : ∃ k, n = k + 1 := ⟨n - 1, by have := nk.pos; omega⟩
    have tab : ∀ {E'}, JN K (tCallS (spD K T.cl [false, false] true preNet (postOr outTable)) E' (tCons (tVar 0) (tCons (tVar 1) tNil))) (argEnv [false, false] [natD (k + 1), .list (ts.map tieD)] 3) true ((lapL (k + 1) ts).map rowD) := fun {E'} =>
      jn_callS (by walk_at "jf") ⟨_, _, rfl, hm, ht⟩ fun out po => postOr_net nk po
    have sm := lapC_small (n := k) (ts := ts) (by omega) (Nat.le_trans l2 (by decide))
    refine run_retV (v := .int (TT.T (k + 1) ts : Int)) (n := true) (d := natD (TT.T (k + 1) ts)) (jv_callS (d := .int (det k (ent (lapC (k + 1) ts)))) (jf_cons (d := rowsD (lapC (k + 1) ts)) ?_ jf_nil) ⟨k, _, rfl, sm⟩ (fun out ⟨n', R', e, s2, po⟩ => ?_) (congrArg (fun z => some (V.int z)) (lapC_det nk.inb))) rfl (ho _ ⟨_, _, rfl, .inr ⟨k + 1, ts, rfl, rfl, nk, rfl⟩⟩)
    · have sl : ∀ {E'}, JN K (tSl (rSlL K) (tCallS (spD K T.cl [false, false] true preNet (postOr outTable)) E' (tCons (tVar 0) (tCons (tVar 1) tNil))) (tPart (tC (.int 1))) tNoPart) (argEnv [false, false] [natD (k + 1), .list (ts.map tieD)] 3) true (((lapL (k + 1) ts).drop 1).map rowD) := fun {E'} => by
        refine (jn_slice tab.nS (jo_some jv_c) jo_none).eqN ?_
        rw [cutG_map]
        congr 1
        exact cutG_from _ 1
      refine ((jn_mapL (enc := rowD) ((lapL (k + 1) ts).drop 1) (fun r => rowD (r.drop 1)) sl.nS (by rw [List.length_drop, lapL_len]; omega) fun r hr => ⟨_, tg_name, ?_⟩).nD.low).eqD ?_
      · refine (Jd.intsN (n := true) ((jn_slice (js_var rfl) (jo_some jv_c) jo_none).eqN ?_)).nD
        rw [cutG_map]
        congr 1
        exact cutG_from r 1
      · unfold rowsD lapC
        rw [List.map_map]
        rfl
    · obtain rfl := rowsD_inj (one_cons e).1
      obtain rfl := sq_uniq sm.sq s2.sq
      exact po
theorem jv_tallyC {cl : XC → Addr} {t1 t2 : TE} {env : List Sl} {n : Nat} {ts : List Tie} (nk : NetOk n ts) (h1 : JD K t1 env false (natD n)) (h2 : JD K t2 env false (.list (ts.map tieD))) :
    JV K (tCall (spD K cl [false, false] true preNet (postOr outTally)) [] E0 (tCons t1 (tCons t2 tNil))) env (.int (TT.T n ts : Int)) :=
  jv_call (d := natD (TT.T n ts)) (jf_cons h1 (jf_cons h2 jf_nil)) (preNet_of n ts) (fun out po => postOr_net nk po) rfl

end
end Tr

namespace Tr
open PySem L2 DL TT
local macro_rules | `(tactic| walk_at "jv") => `(tactic| first
  | exact jv_c
  | exact jv_var rfl rfl
  | ((with_reducible refine' jv_add ?a ?b); (case a => walk_at "jv"); (case b => walk_at "jv"))
  | ((with_reducible refine' jv_sub ?a ?b); (case a => walk_at "jv"); (case b => walk_at "jv"))
  | ((with_reducible refine' jv_lt ?a ?b); (case a => walk_at "jv"); (case b => walk_at "jv"))
  | ((with_reducible refine' jv_le ?a ?b); (case a => walk_at "jv"); (case b => walk_at "jv"))
  | ((with_reducible refine' jv_gt ?a ?b); (case a => walk_at "jv"); (case b => walk_at "jv"))
  | ((with_reducible refine' jv_ge ?a ?b); (case a => walk_at "jv"); (case b => walk_at "jv"))
  | ((with_reducible refine' jv_eqI ?a ?b); (case a => walk_at "jv"); (case b => walk_at "jv"))
  | ((with_reducible refine' jv_neI ?a ?b); (case a => walk_at "jv"); (case b => walk_at "jv"))
  | ((with_reducible refine' jv_chain ?a ?b ?c); (case a => walk_at "jv"); (case b => walk_at "jv"); (case c => walk_at "jv"))
  | ((with_reducible refine' jv_not ?a); (case a => walk_at "jv"))
  | ((with_reducible refine' jv_len ?a); (case a => walk_at "js"))
  | ((with_reducible refine' jv_lenU ?a); (case a => walk_at "ju"))
  | ((with_reducible refine' jv_min2 ?a ?b); (case a => walk_at "jv"); (case b => walk_at "jv"))
  | ((with_reducible refine' jv_max2 ?a ?b); (case a => walk_at "jv"); (case b => walk_at "jv"))
  | assumption)
local macro_rules | `(tactic| walk_at "js") => `(tactic| first
  | exact js_var rfl
  | exact js_own rfl
  | exact Jd.lowS (js_var rfl)
  | assumption
  | exact Jd.nS (by assumption))
local macro_rules | `(tactic| walk_at "ju") => `(tactic| first
  | exact ju_var rfl
  | assumption)
local macro_rules | `(tactic| walk_at "jd") => `(tactic| first
  | exact jd_var rfl
  | exact Jd.low (jd_var rfl)
  | exact Jd.low (by assumption)
  | assumption
  | ((refine' Jd.int (Jd.eqV ?a ?b)); (case a => walk_at "jv"); (case b => first | rfl | (congr 1; omega)))
  | ((refine' Jd.bool ?a); (case a => walk_at "jv")))
local macro_rules | `(tactic| walk_at "jf") => `(tactic| first
  | exact jf_nil
  | ((with_reducible refine' jf_cons ?a ?b); (case a => walk_at "jd"); (case b => walk_at "jf")))
local macro_rules | `(tactic| walk_at "less") => `(tactic| first
  | exact LessI.nil
  | (refine LessI.keep ?_; walk_at "less")
  | (refine LessI.drop ?_; walk_at "less"))
local macro_rules | `(tactic| walk_at "loop") => `(tactic| (refine' run_loopW ?x ?y; (case x => exact rfl); (case y => walk_at "less")))

section
variable {P : Program} {w : World} {K : PySem.W.Frag} {mg : Str → Option Value} {base : Heap}

-- leans on ok_need_net
def intOf : D → Int
  | .int i => i
  | _ => 0
def isRiseD (d : D) (m : Int) : Bool := match d with
  | .list xs => (xs.all fun x => isBelow x m) && riseI (xs.map intOf)
  | _ => false
theorem below_list {m : Int} : ∀ {xs : List D}, (xs.all fun x => isBelow x m) = true → ∃ S : List Nat, xs = S.map natD ∧ ∀ i, i ∈ S → (i : Int) < m
  | [], _ => ⟨[], rfl, fun i h => (nomatch h)⟩
  | x :: xs, h => by
    simp only [List.all_cons, Bool.and_eq_true] at h
    obtain ⟨k, rfl, hk⟩ := isBelow_inv h.1
    obtain ⟨S, e, hS⟩ := below_list h.2
    refine ⟨k :: S, by rw [e]; rfl, fun i hi => ?_⟩
    rcases List.mem_cons.mp hi with z | z
    · rw [z]; exact hk
    · exact hS i z
theorem rise_nats (S : List Nat) : riseI ((S.map natD).map intOf) = true ↔ S.Pairwise (· < ·) := by
  rw [riseI_iff, List.map_map, List.pairwise_map]
  exact ⟨fun h => h.imp fun z => Int.ofNat_lt.mp z, fun h => h.imp fun z => Int.ofNat_lt.mpr z⟩
theorem isRiseD_iff (d : D) (m : Nat) : isRiseD d (m : Int) = true ↔ ∃ S : List Nat, d = numsD S ∧ S.Pairwise (· < ·) ∧ InS m S := by
  constructor
  · intro h
    cases d with
    | list xs =>
      simp only [isRiseD, Bool.and_eq_true] at h
      obtain ⟨S, rfl, hS⟩ := below_list h.1
      exact ⟨S, rfl, (rise_nats S).mp h.2, fun i hi => by have := hS i hi; omega⟩
    | _ => simp [isRiseD] at h
  · rintro ⟨S, rfl, h1, h2⟩
    show ((S.map natD).all _ && riseI _) = true
    rw [(rise_nats S).mpr h1, Bool.and_true, List.all_eq_true]
    intro x hx
    obtain ⟨i, hi, rfl⟩ := List.mem_map.mp hx
    have := h2 i hi
    show (decide (0 ≤ (i : Int)) && decide ((i : Int) < (m : Int))) = true
    simp only [Bool.and_eq_true, decide_eq_true_eq]
    omega
def preRise (ds : List D) : Prop := ∃ (d : D) (m : Nat), ds = [d, natD m] ∧ pln d = true ∧ (∀ xs, d = .list xs → xs.length ≤ 1000)
def postRise (ds : List D) (out : Out) : Prop := ∃ (d : D) (m : Nat), ds = [d, natD m] ∧ out = .val (.bool (isRiseD d m))
theorem ok_is_rising (T : Tx K mg) : FnOk P w K mg base (L2.CX P w) 2 T.a_is_rising T.d_is_rising ["some", "bound"] (spD K T.cl [false, false] true preRise postRise) := by
  refine fnD T.F_is_rising sc_is_rising rfl fun cdv A outer s E M B H Q ds hr hp wf ho => ?_
  obtain ⟨d, m, rfl, hd, hl⟩ := hp
  refine ⟨_, (pss_cons (ps_if (PW.pt (pw_or (pt_not (pt_val (pe_callB (isi_K K rfl) (by rfl) T.n_isinstance (by decide +kernel) (pa_cons (pv 0) (pa_cons (pe_bltn (v := .ty "list") (by rfl) T.n_list (by decide +kernel) rfl) pa_nil))))) (pw_or1 (pt_not (pt_val (pe_callB (all_K K rfl rfl) (by rfl) T.n_all (by decide +kernel) (pa_cons (pe_lc (own := [("one", 2)]) rfl sc_is_rising.nd (list_pi K rfl (pv 0)) (blkOk_by (own := [("one", 2)]) (N := ["some", "bound", "one", "k"]) (sc := defScope s_is_rising) (by decide +kernel)) (fun _ _ _ _ _ => (pg_name (i := 2) sc_is_rising.nd rfl (Or.inl rfl))) (fun _ _ _ _ _ => pts_nil) (fun _ _ _ _ _ => (pe_call (ok_is_below T) (hr.mono (by decide)) (by rfl) T.g_is_below T.F_is_below.kp T.b_is_below .nil passL (pa_cons (pv 2) (pa_cons (pv 1) pa_nil))))) pa_nil)))))))
      (pss_one (ps_ret pe_bl)) pss_nil)
      (pss_one (ps_ret (pe_callB (all_K K rfl rfl) (by rfl) T.n_all (by decide +kernel) (pa_cons (pe_lc (own := [("k", 3)]) rfl sc_is_rising.nd (pi_range1 (by rfl) T.n_range (pa_cons (pe_op op_sub (pe_callB (len_K K rfl) (by rfl) T.n_len (by decide +kernel) (pa_cons (pv 0) pa_nil)) pe_int) pa_nil)) (blkOk_by (own := [("k", 3)]) (N := ["some", "bound", "one", "k"]) (sc := defScope s_is_rising) (by decide +kernel)) (fun _ _ _ _ _ => (pg_name (i := 3) sc_is_rising.nd rfl (Or.inl rfl))) (fun _ _ _ _ _ => pts_nil) (fun _ _ _ _ _ => (pe_cmpR op_lt (pe_ix (ix_K K rfl) (pv 0) (pv 3) (fun _ _ => rfl)) (pe_ix (ix_K K rfl) (pv 0) (pe_op op_addD (pv 3) pe_int) (fun _ _ => rfl)) (nomark _)))) pa_nil))))), ?_⟩
  have ret := ho _ ⟨d, m, rfl, rfl⟩
  have vd : JD K (tVar 0) (argEnv [false, false] [d, natD m] 4) false d := jd_var rfl
  by_cases c : ∃ xs, d = .list xs
  · obtain ⟨xs, rfl⟩ := c
    have xl := hl xs rfl
    have xp : ∀ x, x ∈ xs → pln x = true := plns_mem (by simpa [pln] using hd)
    have all : JV K (tCB (rAll K) (tCons (tLc (iList K (tVar 0)) (gName 2) tYes (tCall (spD K T.cl [false, false] true preBelow postBelow) [] E0 (tCons (tVar 2) (tCons (tVar 1) tNil))) [2]) tNil)) (argEnv [false, false] [.list xs, natD m] 4) (.bl (xs.all fun x => isBelow x m)) := by
      refine (jv_all (bs := xs.map fun x => isBelow x m) (((jn_mapL (enc := id) (n0 := false) (n := true) xs (fun x => .bool (isBelow x m)) (by rw [List.map_id]; exact js_var rfl) (by omega) fun x hx => ⟨_, tg_name, Jd.bool (jv_call (d := .bool (isBelow x m)) (jf_cons (jd_var rfl) (jf_cons (jd_nat rfl) jf_nil)) ⟨x, (m : Int), rfl, xp x hx⟩ (fun out ⟨d', b', e, po⟩ => ?_) rfl)⟩).nS).eqS (by rw [List.map_map]; rfl))).eqV (by rw [List.all_map]; rfl)
      obtain ⟨e1, e2⟩ := one_cons e
      rw [po, ← e1, ← PyData.int.inj (one_cons e2).1]
      rfl
    refine run_if (b := !(xs.all fun x => isBelow x m)) ((jt_or (b := false) (c := !(xs.all fun x => isBelow x m)) ((jt_not (b := true) (jt_B (jv_isi vd kb_list_list))).to rfl) fun _ => jt_not (jt_B all))) (fun q => ?_) (fun q => run_next ?_)
    · have q' : (xs.all fun x => isBelow x m) = false := by simpa using q
      have e : isRiseD (.list xs) m = false := by
        show ((xs.all fun x => isBelow x m) && _) = false
        rw [q']
        rfl
      rw [e] at ret
      exact run_retSeq (run_retV jv_c rfl ret)
    · have q' : (xs.all fun x => isBelow x m) = true := by simpa using q
      obtain ⟨S, rfl, hS⟩ := below_list q'
      have e : isRiseD (.list (S.map natD)) m = riseI ((S.map natD).map intOf) := by
        show (((S.map natD).all fun x => isBelow x m) && _) = _
        rw [q']
        rfl
      rw [e] at ret
      have sl : S.length ≤ 1000 := by rw [List.length_map] at xl; exact xl
      have ix : ∀ (te : TE) (env : List Sl) (k : Nat), env[0]? = some (.val false (.list (S.map natD))) → JV K te env (.int (k : Int)) → k < S.length → JV K (tOp (rIx K) (tVar 0) te) env (.int (((S.map natD).map intOf).getD k 0)) := fun te env k h0 hk kl => by
        refine (jd_ixE (enc := natD) k 0 (js_var h0) hk rfl kl).toV ?_
        rw [List.map_map, List.getD_eq_getElem?_getD, List.getD_eq_getElem?_getD, List.getElem?_map, List.getElem?_eq_getElem kl]
        rfl
      refine run_retV ((jv_all (bs := (List.range (S.length - 1)).map fun k => decide (((S.map natD).map intOf).getD k 0 < ((S.map natD).map intOf).getD (k + 1) 0)) (((jn_mapR (k := (S.length : Int) - 1) (n := true) (fun k => .bool (decide (((S.map natD).map intOf).getD k 0 < ((S.map natD).map intOf).getD (k + 1) 0))) (jv_sub ((jv_len (js_var rfl)).eqV (by rw [List.length_map])) jv_c) (by omega) (by omega) fun k hk => ⟨_, tg_name, Jd.bool (jv_lt (ix _ _ k rfl (jv_var rfl rfl) (by omega)) (ix _ _ (k + 1) rfl ((jv_add (jv_var rfl rfl) jv_c).eqV (by congr 1)) (by omega)))⟩).nS).eqS ?_)).eqV (v := .bl _) (x := .bl (riseI ((S.map natD).map intOf))) ?_) rfl ret
      · rw [show ((S.length : Int) - 1).toNat = S.length - 1 by omega]
        exact List.map_map.symm
      · unfold riseI
        rw [List.all_map, List.length_map, List.length_map]
        rfl
  · have nl : ∃ b, kitB (tyN d) "list" = some b ∧ b = false := by
      cases d with
      | list ts => exact absurd ⟨ts, rfl⟩ c
      | none => exact ⟨_, kb_none_list, rfl⟩
      | bool x => exact ⟨_, kb_bool_list, rfl⟩
      | int x => exact ⟨_, kb_int_list, rfl⟩
      | str x => exact ⟨_, kb_str_list, rfl⟩
      | tuple x => exact ⟨_, kb_tuple_list, rfl⟩
      | dict x => exact ⟨_, kb_dict_list, rfl⟩
    obtain ⟨b, hb, rfl⟩ := nl
    have e : isRiseD d m = false := by
      cases d with
      | list ts => exact absurd ⟨ts, rfl⟩ c
      | _ => rfl
    rw [e] at ret
    exact run_if (b := true) (jt_or (b := true) (c := true) ((jt_not (b := false) (jt_B (jv_isi vd hb (pln_scr hd)))).to rfl) fun e => nomatch e) (fun _ => run_retSeq (run_retV jv_c rfl ret)) (fun e => nomatch e)

end
end Tr

namespace Tr
open PySem L2 DL TT
local macro_rules | `(tactic| walk_at "jv") => `(tactic| first
  | exact jv_c
  | exact jv_var rfl rfl
  | ((with_reducible refine' jv_add ?a ?b); (case a => walk_at "jv"); (case b => walk_at "jv"))
  | ((with_reducible refine' jv_sub ?a ?b); (case a => walk_at "jv"); (case b => walk_at "jv"))
  | ((with_reducible refine' jv_lt ?a ?b); (case a => walk_at "jv"); (case b => walk_at "jv"))
  | ((with_reducible refine' jv_le ?a ?b); (case a => walk_at "jv"); (case b => walk_at "jv"))
  | ((with_reducible refine' jv_gt ?a ?b); (case a => walk_at "jv"); (case b => walk_at "jv"))
  | ((with_reducible refine' jv_ge ?a ?b); (case a => walk_at "jv"); (case b => walk_at "jv"))
  | ((with_reducible refine' jv_eqI ?a ?b); (case a => walk_at "jv"); (case b => walk_at "jv"))
  | ((with_reducible refine' jv_neI ?a ?b); (case a => walk_at "jv"); (case b => walk_at "jv"))
  | ((with_reducible refine' jv_chain ?a ?b ?c); (case a => walk_at "jv"); (case b => walk_at "jv"); (case c => walk_at "jv"))
  | ((with_reducible refine' jv_not ?a); (case a => walk_at "jv"))
  | ((with_reducible refine' jv_len ?a); (case a => walk_at "js"))
  | ((with_reducible refine' jv_lenU ?a); (case a => walk_at "ju"))
  | ((with_reducible refine' jv_min2 ?a ?b); (case a => walk_at "jv"); (case b => walk_at "jv"))
  | ((with_reducible refine' jv_max2 ?a ?b); (case a => walk_at "jv"); (case b => walk_at "jv"))
  | assumption)
local macro_rules | `(tactic| walk_at "js") => `(tactic| first
  | exact js_var rfl
  | exact js_own rfl
  | exact Jd.lowS (js_var rfl)
  | assumption
  | exact Jd.nS (by assumption))
local macro_rules | `(tactic| walk_at "ju") => `(tactic| first
  | exact ju_var rfl
  | assumption)
local macro_rules | `(tactic| walk_at "jd") => `(tactic| first
  | exact jd_var rfl
  | exact Jd.low (jd_var rfl)
  | exact Jd.low (by assumption)
  | assumption
  | ((refine' Jd.int (Jd.eqV ?a ?b)); (case a => walk_at "jv"); (case b => first | rfl | (congr 1; omega)))
  | ((refine' Jd.bool ?a); (case a => walk_at "jv")))
local macro_rules | `(tactic| walk_at "jf") => `(tactic| first
  | exact jf_nil
  | ((with_reducible refine' jf_cons ?a ?b); (case a => walk_at "jd"); (case b => walk_at "jf")))
local macro_rules | `(tactic| walk_at "less") => `(tactic| first
  | exact LessI.nil
  | (refine LessI.keep ?_; walk_at "less")
  | (refine LessI.drop ?_; walk_at "less"))
local macro_rules | `(tactic| walk_at "loop") => `(tactic| (refine' run_loopW ?x ?y; (case x => exact rfl); (case y => walk_at "less")))

section
variable {P : Program} {w : World} {K : PySem.W.Frag} {mg : Str → Option Value} {base : Heap}

/-- what comes of a net and a thing, or a refusal -/
def postArg (q : Nat → List Tie → D → Out → Prop) (ds : List D) (out : Out) : Prop := ∃ m t d, ds = [m, t, d] ∧ ((isNet m t = false ∧ out = .err .net) ∨ ∃ n ts, m = natD n ∧ t = .list (ts.map tieD) ∧ NetOk n ts ∧ q n ts d out)
theorem postArg_net {q : Nat → List Tie → D → Out → Prop} {n : Nat} {ts : List Tie} {d : D} {out : Out} (h : NetOk n ts) (p : postArg q [natD n, .list (ts.map tieD), d] out) : q n ts d out := by
  obtain ⟨m, t, d', e, p⟩ := p
  obtain ⟨e1, e2⟩ := one_cons e
  obtain ⟨e2, e3⟩ := one_cons e2
  obtain ⟨e3, _⟩ := one_cons e3
  subst e1 e2 e3
  rcases p with ⟨b, _⟩ | ⟨n', ts', e1, e2, _, q'⟩
  · rw [isNet_of h] at b
    cases b
  · obtain rfl := natD_inj e1
    obtain rfl := ties_inj (PyData.list.inj e2)
    exact q'
theorem postArg_bad {q : Nat → List Tie → D → Out → Prop} {m t d : D} {out : Out} (h : isNet m t = false) (p : postArg q [m, t, d] out) : out = .err .net := by
  obtain ⟨m', t', d', e, p⟩ := p
  obtain ⟨e1, e2⟩ := one_cons e
  obtain ⟨e2, _⟩ := one_cons e2
  subst e1 e2
  rcases p with ⟨_, b⟩ | ⟨n', ts', e1, e2, ok, _⟩
  · exact b
  · subst e1 e2
    rw [isNet_of ok] at h
    cases h
noncomputable def isHangD (n : Nat) (ts : List Tie) (d : D) : Bool := @decide (∃ S, S ∈ allH n ts ∧ d = numsD S) (Classical.propDecidable _)
theorem isHangD_iff {n : Nat} {ts : List Tie} {d : D} : isHangD n ts d = true ↔ ∃ S, S ∈ allH n ts ∧ d = numsD S := by unfold isHangD; exact @decide_eq_true_iff _ (Classical.propDecidable _)
theorem isHangD_nums {n : Nat} {ts : List Tie} {S : List Nat} : isHangD n ts (numsD S) = true ↔ S ∈ allH n ts := by
  rw [isHangD_iff]
  exact ⟨fun ⟨S', h, e⟩ => by rw [nums_inj e]; exact h, fun h => ⟨S, h, rfl⟩⟩
theorem pick_netok {n : Nat} {ts : List Tie} (nk : NetOk n ts) {S : List Nat} (h : InS ts.length S) (hl : S.length ≤ 16) : NetOk n (pick ts S) := ⟨nk.pos, nk.le, by rw [pick_len]; exact hl, pick_inb nk.inb h⟩
def preArg (ds : List D) : Prop := ∃ m t d, ds = [m, t, d] ∧ pln m = true ∧ pln t = true ∧ pln d = true ∧ (∀ xs, d = .list xs → xs.length ≤ 1000)
def outIsH (n : Nat) (ts : List Tie) (d : D) (out : Out) : Prop := out = .val (.bool (isHangD n ts d))
theorem ok_is_hanging (T : Tx K mg) : FnOk P w K mg base (L2.CX P w) 6 T.a_is_hanging T.d_is_hanging ["many", "ties", "some"] (spD K T.cl [false, false, false] true preArg (postArg outIsH)) := by
  refine fnD T.F_is_hanging sc_is_hanging rfl fun cdv A outer s E M B H Q ds hr hp wf ho => ?_
  obtain ⟨m, t, d, rfl, hm, ht, hd, hl⟩ := hp
  refine ⟨_, (pss_cons (ps_expr (pe_callS (ok_need_net T) (hr.mono (by decide)) (by rfl) T.g_need_net T.F_need_net.kp T.b_need_net (fun σ => passAt (takes_of rfl rfl rfl rfl) σ) (pa_cons (pv 0) (pa_cons (pv 1) pa_nil))))
      (pss_cons (ps_if (PW.pt (pw_or (pt_not (pt_val (pe_callS (ok_is_rising T) (hr.mono (by decide)) (by rfl) T.g_is_rising T.F_is_rising.kp T.b_is_rising (fun σ => passAt (takes_of rfl rfl rfl rfl) σ) (pa_cons (pv 2) (pa_cons (pe_callB (len_K K rfl) (by rfl) T.n_len (by decide +kernel) (pa_cons (pv 1) pa_nil)) pa_nil))))) (pw_or1 (pt_cmpR (op_neK K rfl hr.units) (pe_callB (len_K K rfl) (by rfl) T.n_len (by decide +kernel) (pa_cons (pv 2) pa_nil)) (pe_op op_sub (pv 0) pe_int) (nomark _)))))
      (pss_one (ps_ret pe_bl)) pss_nil)
      (pss_one (ps_ret (pe_callS (ok_hangs T) (hr.mono (by decide)) (by rfl) T.g_hangs T.F_hangs.kp T.b_hangs (fun σ => passAt (takes_of rfl rfl rfl rfl) σ) (pa_cons (pv 0) (pa_cons (pe_lc (own := [("tie", 3)]) rfl sc_is_hanging.nd (list_pi K rfl (pv 2)) (blkOk_by (own := [("tie", 3)]) (N := ["many", "ties", "some", "tie"]) (sc := defScope s_is_hanging) (by decide +kernel)) (fun _ _ _ _ _ => (pg_name (i := 3) sc_is_hanging.nd rfl (Or.inl rfl))) (fun _ _ _ _ _ => pts_nil) (fun _ _ _ _ _ => (pe_ix (ix_K K rfl) (pv 1) (pv 3) (fun _ _ => rfl)))) pa_nil))))))), ?_⟩
  cases hn : isNet m t with
  | false =>
    exact run_dropE (er_call (jf_cons (jd_var rfl) (jf_cons (jd_var rfl) jf_nil)) ⟨m, t, rfl, hm, ht⟩ fun out po => need_bad hn po) fun H' s => ho _ ⟨m, t, d, rfl, .inl ⟨hn, rfl⟩⟩ H' s
  | true =>
    obtain ⟨n, ts, rfl, rfl, nk⟩ := isNet_inv hn
    have l1 := nk.le
    have l2 := nk.len
    have n0 := nk.pos
    refine run_drop (jd_callS (d := .none) (jf_cons (jd_var rfl) (jf_cons (jd_var rfl) jf_nil)) ⟨_, _, rfl, hm, ht⟩ fun out po => .inl (need_ok nk po)) ?_
    have ret : OutOk K T.cl M B true H Q E (.val (.bool (isHangD n ts d))) := ho _ ⟨_, _, d, rfl, .inr ⟨n, ts, rfl, rfl, nk, rfl⟩⟩
    have ris : ∀ {E'}, JV K (tCallS (spD K T.cl [false, false] true preRise postRise) E' (tCons (tVar 2) (tCons (tCB (rLenQ K) (tCons (tVar 1) tNil)) tNil))) (argEnv [false, false, false] [natD n, .list (ts.map tieD), d] 4) (.bl (isRiseD d ts.length)) := fun {E'} =>
      jv_callS (d := .bool (isRiseD d ts.length)) (jf_cons (jd_var rfl) (jf_cons (d := natD ts.length) (Jd.int (j := (ts.length : Int)) ((jv_len (js_var rfl)).eqV (by rw [List.length_map]))) jf_nil)) ⟨d, ts.length, rfl, hd, hl⟩ (fun out ⟨d', m', e, po⟩ => by
        obtain ⟨e1, e2⟩ := one_cons e
        rw [po, ← e1, natD_inj (one_cons e2).1]) rfl
    by_cases c : ∃ S : List Nat, d = numsD S ∧ S.Pairwise (· < ·) ∧ InS ts.length S
    · have er := (isRiseD_iff d ts.length).mpr c
      obtain ⟨S, rfl, s1, s2⟩ := c
      rw [er] at ris
      have ee : isHangD n ts (numsD S) = (decide (S.length = n - 1) && connP n (pick ts S)) := by
        rw [Bool.eq_iff_iff, isHangD_nums, mem_allH, Bool.and_eq_true, decide_eq_true_iff, connP_iff]
        exact ⟨fun h => h.2.2, fun h => ⟨s1, s2, h⟩⟩
      rw [ee] at ret
      have sl : S.length ≤ 16 := by
        have := rise_len s1 s2
        omega
      refine run_if (b := !decide (S.length = n - 1)) ((jt_or (b := false) (c := !decide (S.length = n - 1)) ((jt_not (jt_B ris)).to rfl) fun _ => (jt_test (jv_neI (jv_len (js_var rfl)) (jv_sub (jv_var rfl rfl) jv_c))).to ?_)) (fun q => ?_) (fun q => run_next ?_)
      · rw [List.length_map]
        congr 1
        rw [Bool.eq_iff_iff, decide_eq_true_iff, decide_eq_true_iff]
        omega
      · have q' : decide (S.length = n - 1) = false := by simpa using q
        rw [q'] at ret
        exact run_retSeq (run_retV jv_c rfl ret)
      · have q' : decide (S.length = n - 1) = true := by simpa using q
        rw [q', Bool.true_and] at ret
        refine run_retV (jv_hangsS (pick_netok nk s2 sl) (jd_var rfl) ((jn_mapL (enc := natD) (n0 := false) (n := false) S (fun i => tieD (ts.getD i (0, 0))) (js_var rfl) (by omega) fun i hi => ⟨_, tg_name, jd_ixE (enc := tieD) i (0, 0) (js_var rfl) (jv_var rfl rfl) rfl (s2 i hi)⟩).eqN (by unfold pick; rw [List.map_map]; rfl)).nD) rfl ret
    · have er : isRiseD d ts.length = false := Bool.eq_false_iff.mpr fun z => c ((isRiseD_iff d ts.length).mp z)
      have eh : isHangD n ts d = false := Bool.eq_false_iff.mpr fun z => by
        obtain ⟨S, h1, h2⟩ := isHangD_iff.mp z
        obtain ⟨a1, a2, _⟩ := mem_allH.mp h1
        exact c ⟨S, h2, a1, a2⟩
      rw [er] at ris
      rw [eh] at ret
      exact run_if (b := true) (jt_or (b := true) (c := true) ((jt_not (b := false) (jt_B ris)).to rfl) fun e => nomatch e) (fun _ => run_retSeq (run_retV jv_c rfl ret)) (fun e => nomatch e)

end
end Tr

namespace Tr
open PySem L2 DL TT
local macro_rules | `(tactic| walk_at "jv") => `(tactic| first
  | exact jv_c
  | exact jv_var rfl rfl
  | ((with_reducible refine' jv_add ?a ?b); (case a => walk_at "jv"); (case b => walk_at "jv"))
  | ((with_reducible refine' jv_sub ?a ?b); (case a => walk_at "jv"); (case b => walk_at "jv"))
  | ((with_reducible refine' jv_lt ?a ?b); (case a => walk_at "jv"); (case b => walk_at "jv"))
  | ((with_reducible refine' jv_le ?a ?b); (case a => walk_at "jv"); (case b => walk_at "jv"))
  | ((with_reducible refine' jv_gt ?a ?b); (case a => walk_at "jv"); (case b => walk_at "jv"))
  | ((with_reducible refine' jv_ge ?a ?b); (case a => walk_at "jv"); (case b => walk_at "jv"))
  | ((with_reducible refine' jv_eqI ?a ?b); (case a => walk_at "jv"); (case b => walk_at "jv"))
  | ((with_reducible refine' jv_neI ?a ?b); (case a => walk_at "jv"); (case b => walk_at "jv"))
  | ((with_reducible refine' jv_chain ?a ?b ?c); (case a => walk_at "jv"); (case b => walk_at "jv"); (case c => walk_at "jv"))
  | ((with_reducible refine' jv_not ?a); (case a => walk_at "jv"))
  | ((with_reducible refine' jv_len ?a); (case a => walk_at "js"))
  | ((with_reducible refine' jv_lenU ?a); (case a => walk_at "ju"))
  | ((with_reducible refine' jv_min2 ?a ?b); (case a => walk_at "jv"); (case b => walk_at "jv"))
  | ((with_reducible refine' jv_max2 ?a ?b); (case a => walk_at "jv"); (case b => walk_at "jv"))
  | assumption)
local macro_rules | `(tactic| walk_at "js") => `(tactic| first
  | exact js_var rfl
  | exact js_own rfl
  | exact Jd.lowS (js_var rfl)
  | assumption
  | exact Jd.nS (by assumption))
local macro_rules | `(tactic| walk_at "ju") => `(tactic| first
  | exact ju_var rfl
  | assumption)
local macro_rules | `(tactic| walk_at "jd") => `(tactic| first
  | exact jd_var rfl
  | exact Jd.low (jd_var rfl)
  | exact Jd.low (by assumption)
  | assumption
  | ((refine' Jd.int (Jd.eqV ?a ?b)); (case a => walk_at "jv"); (case b => first | rfl | (congr 1; omega)))
  | ((refine' Jd.bool ?a); (case a => walk_at "jv")))
local macro_rules | `(tactic| walk_at "jf") => `(tactic| first
  | exact jf_nil
  | ((with_reducible refine' jf_cons ?a ?b); (case a => walk_at "jd"); (case b => walk_at "jf")))
local macro_rules | `(tactic| walk_at "less") => `(tactic| first
  | exact LessI.nil
  | (refine LessI.keep ?_; walk_at "less")
  | (refine LessI.drop ?_; walk_at "less"))
local macro_rules | `(tactic| walk_at "loop") => `(tactic| (refine' run_loopW ?x ?y; (case x => exact rfl); (case y => walk_at "less")))

section
variable {P : Program} {w : World} {K : PySem.W.Frag} {mg : Str → Option Value} {base : Heap}

-- leans on ok_marks_of
def preOpen (ds : List D) : Prop := ∃ (n : Nat) (ts : List Tie) (S : List Nat) (t : Nat), ds = [natD n, .list (ts.map tieD), numsD S, natD t] ∧ NetOk n ts ∧ InS ts.length S ∧ S.length ≤ 100 ∧ t < ts.length
def postOpen (ds : List D) (out : Out) : Prop := ∃ (n : Nat) (ts : List Tie) (S : List Nat) (t : Nat), ds = [natD n, .list (ts.map tieD), numsD S, natD t] ∧ out = .val (.bool (opens n ts S t))
theorem jn_pick {te : TE} {env : List Sl} {j i : Nat} {n : Bool} {ts : List Tie} {S : List Nat} (h0 : env[j]? = some (.val false (.list (ts.map tieD)))) (h : JS K te env n (S.map natD)) (hS : InS ts.length S) (sl : S.length ≤ 100) (hk : i < env.length) (hj : j ≠ i) : JN K (tLc (iList K te) (gName i) tYes (tOp (rIx K) (tVar j) (tVar i)) [i]) env false ((pick ts S).map tieD) := by
  refine (jn_mapL (enc := natD) (n0 := n) (n := false) S (fun i => tieD (ts.getD i (0, 0))) h (by omega) fun p hp => ⟨_, tg_name, ?_⟩).eqN (by unfold pick; rw [List.map_map]; rfl)
  have a1 : ((wipeE env [i]).set i (.val n (natD p)))[j]? = some (.val false (.list (ts.map tieD))) := by
    show ((env.set i .un).set i _)[j]? = _
    rw [List.getElem?_set_ne (fun z => hj z.symm), List.getElem?_set_ne (fun z => hj z.symm)]
    exact h0
  have a2 : ((wipeE env [i]).set i (.val n (natD p)))[i]? = some (.val n (natD p)) := by
    show ((env.set i .un).set i _)[i]? = _
    rw [List.getElem?_set_self (by rw [List.length_set]; omega)]
  exact jd_ixE (enc := tieD) p (0, 0) (js_var a1) (jv_var a2 rfl) rfl (hS p hp)
theorem ok_is_open (T : Tx K mg) : FnOk P w K mg base (L2.CX P w) 2 T.a_is_open T.d_is_open ["many", "ties", "some", "tie"] (spD K T.cl [false, false, false, false] true preOpen postOpen) := by
  refine fnD T.F_is_open sc_is_open rfl fun cdv A outer s E M B H Q ds hr hp wf ho => ?_
  obtain ⟨n, ts, S, t, rfl, nk, hS, sl, tl⟩ := hp
  have l1 := nk.le
  have pb := pick_inb nk.inb hS
  have b2 := tie_at nk.inb tl
  refine ⟨_, (pss_cons (ps_set (i := 4) sc_is_open.nd rfl (Or.inl rfl) (pe_callS (ok_marks_of T) (hr.mono (by decide)) (by rfl) T.g_marks_of T.F_marks_of.kp T.b_marks_of (fun σ => passAt (takes_of rfl rfl rfl rfl) σ) (pa_cons (pv 0) (pa_cons (pe_lc (own := [("one", 5)]) rfl sc_is_open.nd (list_pi K rfl (pv 2)) (blkOk_by (own := [("one", 5)]) (N := ["many", "ties", "some", "tie", "marks", "one"]) (sc := defScope s_is_open) (by decide +kernel)) (fun _ _ _ _ _ => (pg_name (i := 5) sc_is_open.nd rfl (Or.inl rfl))) (fun _ _ _ _ _ => pts_nil) (fun _ _ _ _ _ => (pe_ix (ix_K K rfl) (pv 1) (pv 5) (fun _ _ => rfl)))) pa_nil))))
      (pss_one (ps_ret (pe_cmpR (op_neK K rfl hr.units) (pe_ix (ix_K K rfl) (pv 4) (pe_ix (ix_K K rfl) (pe_ix (ix_K K rfl) (pv 1) (pv 3) (fun _ _ => rfl)) pe_int (fun _ _ => rfl)) (fun _ _ => rfl)) (pe_ix (ix_K K rfl) (pv 4) (pe_ix (ix_K K rfl) (pe_ix (ix_K K rfl) (pv 1) (pv 3) (fun _ _ => rfl)) pe_int (fun _ _ => rfl)) (fun _ _ => rfl)) (nomark _))))), ?_⟩
  refine run_set (n := true) (jd_marksS pb (by omega) (by rw [pick_len]; omega) (jd_var rfl) (jn_pick rfl (js_var rfl) hS sl (show (5 : Nat) < 6 by decide) (by decide)).nD) ?_
  obtain ⟨u, hu⟩ : ∃ u, u = ts.getD t (0, 0) := ⟨_, rfl⟩
  rw [← hu] at b2
  have ml := (marks_ok pb).len
  have tj : ∀ env, env[1]? = some (.val false (.list (ts.map tieD))) → env[3]? = some (.val false (natD t)) → JD K (tOp (rIx K) (tVar 1) (tVar 3)) env false (tieD u) := fun env h1 h2 =>
    (jd_ixE (enc := tieD) t (0, 0) (js_var h1) (jv_var h2 rfl) rfl tl).eqD (by rw [← hu])
  refine run_retV ((jv_neI (j := (mk n (pick ts S) u.1 : Int)) (k := (mk n (pick ts S) u.2 : Int)) ((jd_ixE (enc := natD) u.1 0 (js_var rfl) ((jd_ixU (d := natD u.1) (tj _ rfl rfl).dU jv_c rfl).toV rfl) rfl (by omega)).toV rfl) ((jd_ixE (enc := natD) u.2 0 (js_var rfl) ((jd_ixU (d := natD u.2) (tj _ rfl rfl).dU jv_c rfl).toV rfl) rfl (by omega)).toV rfl)).eqV (x := .bl (opens n ts S t)) ?_) rfl (ho _ ⟨n, ts, S, t, rfl, rfl⟩)
  unfold opens
  rw [← hu]
  congr 2
  rw [Bool.eq_iff_iff, decide_eq_true_iff, decide_eq_true_iff]
  omega
theorem open_inj {n : Nat} {ts : List Tie} {S : List Nat} {t : Nat} {out : Out} (p : postOpen [natD n, .list (ts.map tieD), numsD S, natD t] out) : out = .val (.bool (opens n ts S t)) := by
  obtain ⟨n', ts', S', t', e, po⟩ := p
  obtain ⟨e1, e2⟩ := one_cons e
  obtain ⟨e2, e3⟩ := one_cons e2
  obtain ⟨e3, e4⟩ := one_cons e3
  rw [natD_inj e1, ties_inj (PyData.list.inj e2), nums_inj e3, natD_inj (one_cons e4).1]
  exact po

end
end Tr

namespace Tr
open PySem L2 DL TT
local macro_rules | `(tactic| walk_at "jv") => `(tactic| first
  | exact jv_c
  | exact jv_var rfl rfl
  | ((with_reducible refine' jv_add ?a ?b); (case a => walk_at "jv"); (case b => walk_at "jv"))
  | ((with_reducible refine' jv_sub ?a ?b); (case a => walk_at "jv"); (case b => walk_at "jv"))
  | ((with_reducible refine' jv_lt ?a ?b); (case a => walk_at "jv"); (case b => walk_at "jv"))
  | ((with_reducible refine' jv_le ?a ?b); (case a => walk_at "jv"); (case b => walk_at "jv"))
  | ((with_reducible refine' jv_gt ?a ?b); (case a => walk_at "jv"); (case b => walk_at "jv"))
  | ((with_reducible refine' jv_ge ?a ?b); (case a => walk_at "jv"); (case b => walk_at "jv"))
  | ((with_reducible refine' jv_eqI ?a ?b); (case a => walk_at "jv"); (case b => walk_at "jv"))
  | ((with_reducible refine' jv_neI ?a ?b); (case a => walk_at "jv"); (case b => walk_at "jv"))
  | ((with_reducible refine' jv_chain ?a ?b ?c); (case a => walk_at "jv"); (case b => walk_at "jv"); (case c => walk_at "jv"))
  | ((with_reducible refine' jv_not ?a); (case a => walk_at "jv"))
  | ((with_reducible refine' jv_len ?a); (case a => walk_at "js"))
  | ((with_reducible refine' jv_lenU ?a); (case a => walk_at "ju"))
  | ((with_reducible refine' jv_min2 ?a ?b); (case a => walk_at "jv"); (case b => walk_at "jv"))
  | ((with_reducible refine' jv_max2 ?a ?b); (case a => walk_at "jv"); (case b => walk_at "jv"))
  | assumption)
local macro_rules | `(tactic| walk_at "js") => `(tactic| first
  | exact js_var rfl
  | exact js_own rfl
  | exact Jd.lowS (js_var rfl)
  | assumption
  | exact Jd.nS (by assumption))
local macro_rules | `(tactic| walk_at "ju") => `(tactic| first
  | exact ju_var rfl
  | assumption)
local macro_rules | `(tactic| walk_at "jd") => `(tactic| first
  | exact jd_var rfl
  | exact Jd.low (jd_var rfl)
  | exact Jd.low (by assumption)
  | assumption
  | ((refine' Jd.int (Jd.eqV ?a ?b)); (case a => walk_at "jv"); (case b => first | rfl | (congr 1; omega)))
  | ((refine' Jd.bool ?a); (case a => walk_at "jv")))
local macro_rules | `(tactic| walk_at "jf") => `(tactic| first
  | exact jf_nil
  | ((with_reducible refine' jf_cons ?a ?b); (case a => walk_at "jd"); (case b => walk_at "jf")))
local macro_rules | `(tactic| walk_at "less") => `(tactic| first
  | exact LessI.nil
  | (refine LessI.keep ?_; walk_at "less")
  | (refine LessI.drop ?_; walk_at "less"))
local macro_rules | `(tactic| walk_at "loop") => `(tactic| (refine' run_loopW ?x ?y; (case x => exact rfl); (case y => walk_at "less")))

section
variable {P : Program} {w : World} {K : PySem.W.Frag} {mg : Str → Option Value} {base : Heap}

def preLed (ds : List D) : Prop := ∃ (n : Nat) (ts : List Tie) (S : List Nat) (t : Nat), ds = [natD n, .list (ts.map tieD), numsD S, natD t] ∧ NetOk n ts ∧ S.Sublist (List.range t) ∧ t < ts.length
def postLed (ds : List D) (out : Out) : Prop := ∃ (n : Nat) (ts : List Tie) (S : List Nat) (t : Nat), ds = [natD n, .list (ts.map tieD), numsD S, natD t] ∧ out = .new ((led n ts S t).map numsD)
theorem ok_led_on (T : Tx K mg) : FnOk P w K mg base (L2.CX P w) 6 T.a_led_on T.d_led_on ["many", "ties", "some", "tie"] (spD K T.cl [false, false, true, false] true preLed postLed) := by
  refine fnD T.F_led_on sc_led_on rfl fun cdv A outer s E M B H Q ds hr hp wf ho => ?_
  obtain ⟨n, ts, S, t, rfl, nk, sb, tl⟩ := hp
  have l2 := nk.len
  have slt := sub_len sb
  have hS : InS ts.length S := fun i hi => Nat.lt_trans (sub_lt sb i hi) tl
  refine ⟨_, (pss_cons (ps_set (i := 4) sc_led_on.nd rfl (Or.inl rfl) (pe_lst pa_nil))
      (pss_cons (ps_if (pt_val (pe_callS (ok_is_open T) (hr.mono (by decide)) (by rfl) T.g_is_open T.F_is_open.kp T.b_is_open (fun σ => passAt (takes_of rfl rfl rfl rfl) σ) (pa_cons (pv 0) (pa_cons (pv 1) (pa_cons (pv 2) (pa_cons (pv 3) pa_nil))))))
      (pss_one (ps_expr (bm_K K rfl PySem.F.plainAttrs_list PySem.F.slot_list_append PySem.F.type_list_append mt_append (pv 4) (pa_cons (pe_op op_addD (pv 2) (pe_lst (pa_cons (pv 3) pa_nil))) pa_nil)))) pss_nil)
      (pss_cons (ps_if (pt_val (pe_callS (ok_hangs T) (hr.mono (by decide)) (by rfl) T.g_hangs T.F_hangs.kp T.b_hangs (fun σ => passAt (takes_of rfl rfl rfl rfl) σ) (pa_cons (pv 0) (pa_cons (pe_op op_addD (pe_lc (own := [("one", 5)]) rfl sc_led_on.nd (list_pi K rfl (pv 2)) (blkOk_by (own := [("one", 5)]) (N := ["many", "ties", "some", "tie", "found", "one"]) (sc := defScope s_led_on) (by decide +kernel)) (fun _ _ _ _ _ => (pg_name (i := 5) sc_led_on.nd rfl (Or.inl rfl))) (fun _ _ _ _ _ => pts_nil) (fun _ _ _ _ _ => (pe_ix (ix_K K rfl) (pv 1) (pv 5) (fun _ _ => rfl)))) (pe_slice (sl_K K rfl) (pv 1) (po_some (pe_op op_addD (pv 3) pe_int)) po_none)) pa_nil))))
      (pss_one (ps_expr (bm_K K rfl PySem.F.plainAttrs_list PySem.F.slot_list_append PySem.F.type_list_append mt_append (pv 4) (pa_cons (pv 2) pa_nil)))) pss_nil)
      (pss_one (ps_ret (pv 4)))))), ?_⟩
  have ret := ho _ ⟨n, ts, S, t, rfl, rfl⟩
  refine run_setN (n := true) (ds := ([] : List (List Nat)).map numsD) (jn_lst ja_nil (Nat.zero_le _)) ?_
  refine run_ifJ (b := opens n ts S t) (fun env' => env' = [.val false (natD n), .val false (.list (ts.map tieD)), .val true (numsD S), .val false (natD t), .own true ((if opens n ts S t = true then [S ++ [t]] else []).map numsD), .un]) (jt_B (jv_callS (d := .bool (opens n ts S t)) (jf_cons (jd_var rfl) (jf_cons (jd_var rfl) (jf_cons (jd_var rfl).low (jf_cons (jd_var rfl) jf_nil)))) ⟨n, ts, S, t, rfl, nk, hS, by omega, tl⟩ (fun out po => open_inj po) rfl)) (fun env' e1 => ?_) (fun go q => ?_) (fun go q => ?_)
  · subst e1
    have nk2 : NetOk n (pick ts S ++ ts.drop (t + 1)) := ⟨nk.pos, nk.le, by rw [List.length_append, pick_len, List.length_drop]; omega, inb_app (pick_inb nk.inb hS) (drop_inb nk.inb)⟩
    refine run_ifJ (b := connP n (pick ts S ++ ts.drop (t + 1))) (fun env' => env' = [.val false (natD n), .val false (.list (ts.map tieD)), .val true (numsD S), .val false (natD t), .own true ((led n ts S t).map numsD), .un]) (jt_B (jv_hangsS nk2 (jd_var rfl) ((jn_cat (n := false) (ds := (pick ts S).map tieD) (es := (ts.drop (t + 1)).map tieD) (jn_pick rfl (js_var rfl) hS (by omega) (show (5 : Nat) < 6 by decide) (by decide)).nS ?_ (by simp [pick_len]; omega)).eqN (by rw [List.map_append])).nD)) (fun env' e1 => ?_) (fun go q => ?_) (fun go q => ?_)
    · refine ((jn_slice (js_var rfl) (jo_some ((jv_add (jv_var rfl rfl) jv_c).eqV (x := .int ((t + 1 : Nat) : Int)) (by congr 1))) jo_none).eqN ?_).nS
      rw [cutG_map]
      congr 1
      exact cutG_from ts (t + 1)
    · subst e1
      exact run_retO rfl ret
    · refine run_one (run_appendE (es := (led n ts S t).map numsD) rfl (d := numsD S) (jd_var rfl) (by split <;> simp) (go _ rfl) ?_)
      unfold led
      rw [if_pos q, List.map_append]
      rfl
    · refine run_next (run_weak (LessI.less ?_) (go _ rfl))
      have e : led n ts S t = if opens n ts S t = true then [S ++ [t]] else [] := by
        unfold led
        rw [q, if_neg Bool.false_ne_true, List.append_nil]
      rw [e]
      walk_at "less"
  · refine run_one (run_appendE (es := (if opens n ts S t = true then [S ++ [t]] else []).map numsD) rfl (d := numsD (S ++ [t])) ?_ (by simp) (go _ rfl) ?_)
    · exact ((jn_cat (n := true) (ds := S.map natD) (es := [t].map natD) (js_var rfl) (jn_lst (n := true) (ja_cons (jd_nat rfl) ja_nil) (by simp)).nS (by simp; omega)).nD).eqD (by rw [← List.map_append]; rfl)
    · rw [if_pos q]
      rfl
  · refine run_next (go _ ?_)
    rw [if_neg (by rw [q]; exact Bool.false_ne_true)]
    rfl

end
end Tr

namespace Tr
open PySem L2 DL TT
local macro_rules | `(tactic| walk_at "jv") => `(tactic| first
  | exact jv_c
  | exact jv_var rfl rfl
  | ((with_reducible refine' jv_add ?a ?b); (case a => walk_at "jv"); (case b => walk_at "jv"))
  | ((with_reducible refine' jv_sub ?a ?b); (case a => walk_at "jv"); (case b => walk_at "jv"))
  | ((with_reducible refine' jv_lt ?a ?b); (case a => walk_at "jv"); (case b => walk_at "jv"))
  | ((with_reducible refine' jv_le ?a ?b); (case a => walk_at "jv"); (case b => walk_at "jv"))
  | ((with_reducible refine' jv_gt ?a ?b); (case a => walk_at "jv"); (case b => walk_at "jv"))
  | ((with_reducible refine' jv_ge ?a ?b); (case a => walk_at "jv"); (case b => walk_at "jv"))
  | ((with_reducible refine' jv_eqI ?a ?b); (case a => walk_at "jv"); (case b => walk_at "jv"))
  | ((with_reducible refine' jv_neI ?a ?b); (case a => walk_at "jv"); (case b => walk_at "jv"))
  | ((with_reducible refine' jv_chain ?a ?b ?c); (case a => walk_at "jv"); (case b => walk_at "jv"); (case c => walk_at "jv"))
  | ((with_reducible refine' jv_not ?a); (case a => walk_at "jv"))
  | ((with_reducible refine' jv_len ?a); (case a => walk_at "js"))
  | ((with_reducible refine' jv_lenU ?a); (case a => walk_at "ju"))
  | ((with_reducible refine' jv_min2 ?a ?b); (case a => walk_at "jv"); (case b => walk_at "jv"))
  | ((with_reducible refine' jv_max2 ?a ?b); (case a => walk_at "jv"); (case b => walk_at "jv"))
  | assumption)
local macro_rules | `(tactic| walk_at "js") => `(tactic| first
  | exact js_var rfl
  | exact js_own rfl
  | exact Jd.lowS (js_var rfl)
  | assumption
  | exact Jd.nS (by assumption))
local macro_rules | `(tactic| walk_at "ju") => `(tactic| first
  | exact ju_var rfl
  | assumption)
local macro_rules | `(tactic| walk_at "jd") => `(tactic| first
  | exact jd_var rfl
  | exact Jd.low (jd_var rfl)
  | exact Jd.low (by assumption)
  | assumption
  | ((refine' Jd.int (Jd.eqV ?a ?b)); (case a => walk_at "jv"); (case b => first | rfl | (congr 1; omega)))
  | ((refine' Jd.bool ?a); (case a => walk_at "jv")))
local macro_rules | `(tactic| walk_at "jf") => `(tactic| first
  | exact jf_nil
  | ((with_reducible refine' jf_cons ?a ?b); (case a => walk_at "jd"); (case b => walk_at "jf")))
local macro_rules | `(tactic| walk_at "less") => `(tactic| first
  | exact LessI.nil
  | (refine LessI.keep ?_; walk_at "less")
  | (refine LessI.drop ?_; walk_at "less"))
local macro_rules | `(tactic| walk_at "loop") => `(tactic| (refine' run_loopW ?x ?y; (case x => exact rfl); (case y => walk_at "less")))

section
variable {P : Program} {w : World} {K : PySem.W.Frag} {mg : Str → Option Value} {base : Heap}

def preAllh (ds : List D) : Prop := ∃ m t k, ds = [m, t, .int k] ∧ pln m = true ∧ pln t = true
def postAllh (ds : List D) (out : Out) : Prop := ∃ m t k, ds = [m, t, .int k] ∧ ((isNet m t = false ∧ out = .err .net) ∨ ∃ n ts, m = natD n ∧ t = .list (ts.map tieD) ∧ NetOk n ts ∧ out = if decide (k < (TT.T n ts : Int)) = true then .err .many else .val (.list ((allH n ts).map numsD)))
theorem ok_all_hangings (T : Tx K mg) : FnOk P w K mg base (L2.CX P w) 7 T.a_all_hangings T.d_all_hangings ["many", "ties", "most"] (spD K T.cl [false, false, false] true preAllh postAllh) := by
  refine fnD T.F_all_hangings sc_all_hangings rfl fun cdv A outer s E M B H Q ds hr hp wf ho => ?_
  obtain ⟨m, t, k, rfl, hm, ht⟩ := hp
  refine ⟨_, (pss_cons (ps_if (pt_cmpR op_gt (pe_callS (ok_tally T) (hr.mono (by decide)) (by rfl) T.g_tally T.F_tally.kp T.b_tally (fun σ => passAt (takes_of rfl rfl rfl rfl) σ) (pa_cons (pv 0) (pa_cons (pv 1) pa_nil))) (pv 2) (nomark _))
      (pss_one (ps_raise rfl (takes_of rfl rfl rfl rfl) (pmk_own PySem.F.excBase_ValueError T.x_TooMany T.gC_TooMany T.kC_TooMany (raises_own T.bC_TooMany T.tC_TooMany) (by rfl)))) pss_nil)
      (pss_cons (ps_set (i := 3) sc_all_hangings.nd rfl (Or.inl rfl) (pe_ifExp (pt_val (pe_callS (ok_hangs T) (hr.mono (by decide)) (by rfl) T.g_hangs T.F_hangs.kp T.b_hangs (fun σ => passAt (takes_of rfl rfl rfl rfl) σ) (pa_cons (pv 0) (pa_cons (pv 1) pa_nil)))) (pe_lst (pa_cons (pe_lst pa_nil) pa_nil)) (pe_lst pa_nil)))
      (pss_cons (PS.nox (ps_for PassesOwn.never rfl (pi_range1 (by rfl) T.n_range (pa_cons (pe_callB (len_K K rfl) (by rfl) T.n_len (by decide +kernel) (pa_cons (pv 1) pa_nil)) pa_nil)) (pg_name (i := 4) sc_all_hangings.nd rfl (Or.inl rfl))
      (pss_cons (ps_set (i := 5) sc_all_hangings.nd rfl (Or.inl rfl) (pe_lst pa_nil))
      (pss_cons (ps_for PassesOwn.never rfl (list_pi K rfl (pv 3)) (pg_name (i := 6) sc_all_hangings.nd rfl (Or.inl rfl))
      (pss_one (ps_expr (bm_K K rfl PySem.F.plainAttrs_list PySem.F.slot_list_extend PySem.F.type_list_extend mt_extend (pv 5) (pa_cons (pe_call (ok_led_on T) (hr.mono (by decide)) (by rfl) T.g_led_on T.F_led_on.kp T.b_led_on .nil passL (pa_cons (pv 0) (pa_cons (pv 1) (pa_cons (pv 6) (pa_cons (pv 4) pa_nil))))) pa_nil)))))
      (pss_one (ps_set (i := 3) sc_all_hangings.nd rfl (Or.inl rfl) (pv 5)))))))
      (pss_one (ps_ret (pv 3)))))), ?_⟩
  cases hn : isNet m t with
  | false =>
    exact run_ifE (c := .ref (T.cl .net)) (er_test (er_op (er_call (jf_cons (jd_var rfl) (jf_cons (jd_var rfl) jf_nil)) ⟨m, t, rfl, hm, ht⟩ fun out po => postOr_bad hn po))) fun H' s => ho _ ⟨m, t, k, rfl, .inl ⟨hn, rfl⟩⟩ H' s
  | true =>
    obtain ⟨n, ts, rfl, rfl, nk⟩ := isNet_inv hn
    have n0 := nk.pos
    have l2 := nk.len
    have tb := nk.inb
    have T16 : TT.T n ts ≤ 65536 := Nat.le_trans (T_bound n ts) (Nat.pow_le_pow_right (by decide) l2)
    have rl : ∀ t, t ≤ ts.length → (rowsAt n ts t).length ≤ 65536 := fun t ht => Nat.le_trans (rowsAt_len tb n0 ht) T16
    have ret : OutOk K T.cl M B true H Q E (if decide (k < (TT.T n ts : Int)) = true then .err .many else .val (.list ((allH n ts).map numsD))) := ho _ ⟨_, _, k, rfl, .inr ⟨n, ts, rfl, rfl, nk, rfl⟩⟩
    refine run_if (b := decide (k < (TT.T n ts : Int))) (jt_test (jv_gt (jv_callS (d := natD (TT.T n ts)) (jf_cons (jd_var rfl) (jf_cons (jd_var rfl) jf_nil)) ⟨_, _, rfl, hm, ht⟩ (fun out po => postOr_net nk po) rfl) (jv_var rfl rfl))) (fun q => ?_) (fun q => run_next ?_)
    · rw [if_pos q] at ret
      have r2 : ∀ H', Same H H' → E (.ref (T.cl .many)) none H' := ret
      rw [T.cl_TooMany] at r2
      exact run_raiseSeq (run_raise r2) fun _ _ _ h => h
    · rw [if_neg (by rw [q]; exact Bool.false_ne_true)] at ret
      refine run_set (n := true) (d := .list ((rowsAt n ts 0).map numsD)) (jd_if (b := connP n ts) (jt_B (jv_hangsS nk (jd_var rfl) (jd_var rfl))) (fun c => ?_) (fun c => ?_) fun _ _ _ _ _ _ _ p => p) ?_
      · refine ((jn_lst (n := true) (ja_cons (jn_lst (n := true) (ds := []) ja_nil (by simp)).nD ja_nil) (by simp)).nD).eqD ?_
        unfold rowsAt
        rw [if_pos c]
        rfl
      · refine ((jn_lst (n := true) (ds := []) ja_nil (by simp)).nD).eqD ?_
        unfold rowsAt
        rw [if_neg (by rw [c]; exact Bool.false_ne_true)]
        rfl
      refine run_forR (k := (ts.length : Int)) (fun t env => env = [.val false (natD n), .val false (.list (ts.map tieD)), .val false (.int k), .val true (.list ((rowsAt n ts t).map numsD)), .un, .un, .un]) ((jv_len (js_var rfl)).eqV (by rw [List.length_map])) (by omega) (by omega) rfl (fun t env1 htt e1 => ?_) (fun env1 e1 => ?_)
      · subst e1
        have tl : t < ts.length := by omega
        refine run_setN (n := true) (ds := (((rowsAt n ts t).take 0).flatMap fun sm => led n ts sm t).map numsD) (jn_lst ja_nil (Nat.zero_le _)) ?_
        refine run_forL (enc := numsD) (rowsAt n ts t) (fun i env => env = [.val false (natD n), .val false (.list (ts.map tieD)), .val false (.int k), .val true (.list ((rowsAt n ts t).map numsD)), .val true (natD t), .own true ((((rowsAt n ts t).take i).flatMap fun sm => led n ts sm t).map numsD), .un]) (jd_var rfl) rfl (fun hb' i x env1 hx e1 => ?_) (fun env1 e1 => ?_)
        · subst e1
          have sb := rowsAt_sub t x (List.mem_of_getElem? hx)
          have l3 := flatMap_take_len (fun sm => led n ts sm t) (rowsAt n ts t) (i + 1)
          rw [flatMap_take_succ _ hx, List.length_append] at l3
          have l4 := rl (t + 1) (by omega)
          have l5 : (rowsAt n ts (t + 1)).length = ((rowsAt n ts t).flatMap fun sm => led n ts sm t).length := rfl
          refine ⟨_, _, tg_name, run_one (run_extendE (es := (led n ts x t).map numsD) (fs := (((rowsAt n ts t).take (i + 1)).flatMap fun sm => led n ts sm t).map numsD) rfl (jn_call (jf_cons (jd_var rfl) (jf_cons (jd_var rfl) (jf_cons (jd_var rfl) (jf_cons (jd_nat rfl) jf_nil)))) ⟨n, ts, x, t, rfl, nk, sb, tl⟩ fun out ⟨n', ts', S', t', e, po⟩ => ?_).nS (by rw [List.length_map, List.length_map]; omega) (by walk_at "loop") (by rw [flatMap_take_succ _ hx, List.map_append]))⟩
          obtain ⟨e1, e2⟩ := one_cons e
          obtain ⟨e2, e3⟩ := one_cons e2
          obtain ⟨e3, e4⟩ := one_cons e3
          have q1 := natD_inj e1
          have q2 := ties_inj (PyData.list.inj e2)
          have q3 := nums_inj e3
          have q4 := natD_inj (one_cons e4).1
          rw [q1, q2, q3, q4]
          exact po
        · subst e1
          rw [List.take_length]
          refine run_freeze (i := 5) rfl (run_one (run_set (n := true) (d := .list ((rowsAt n ts (t + 1)).map numsD)) (jd_var rfl) ?_))
          walk_at "loop"
      · subst e1
        rw [Int.toNat_natCast, rowsAt_end tb n0]
        exact run_ret (jd_var rfl) ret
theorem allh_net {n : Nat} {ts : List Tie} {k : Int} {out : Out} (nk : NetOk n ts) (p : postAllh [natD n, .list (ts.map tieD), .int k] out) : out = if decide (k < (TT.T n ts : Int)) = true then .err .many else .val (.list ((allH n ts).map numsD)) := by
  obtain ⟨m, t, k', e, p⟩ := p
  obtain ⟨e1, e0⟩ := one_cons e
  obtain ⟨e2, e3⟩ := one_cons e0
  have e4 := PyData.int.inj (one_cons e3).1
  subst e1 e2 e4
  rcases p with ⟨b, _⟩ | ⟨n', ts', e1, e2, _, q'⟩
  · rw [isNet_of nk] at b
    cases b
  · obtain rfl := natD_inj e1
    obtain rfl := ties_inj (PyData.list.inj e2)
    exact q'

end
end Tr

namespace Tr
open PySem L2 DL TT
local macro_rules | `(tactic| walk_at "jv") => `(tactic| first
  | exact jv_c
  | exact jv_var rfl rfl
  | ((with_reducible refine' jv_add ?a ?b); (case a => walk_at "jv"); (case b => walk_at "jv"))
  | ((with_reducible refine' jv_sub ?a ?b); (case a => walk_at "jv"); (case b => walk_at "jv"))
  | ((with_reducible refine' jv_lt ?a ?b); (case a => walk_at "jv"); (case b => walk_at "jv"))
  | ((with_reducible refine' jv_le ?a ?b); (case a => walk_at "jv"); (case b => walk_at "jv"))
  | ((with_reducible refine' jv_gt ?a ?b); (case a => walk_at "jv"); (case b => walk_at "jv"))
  | ((with_reducible refine' jv_ge ?a ?b); (case a => walk_at "jv"); (case b => walk_at "jv"))
  | ((with_reducible refine' jv_eqI ?a ?b); (case a => walk_at "jv"); (case b => walk_at "jv"))
  | ((with_reducible refine' jv_neI ?a ?b); (case a => walk_at "jv"); (case b => walk_at "jv"))
  | ((with_reducible refine' jv_chain ?a ?b ?c); (case a => walk_at "jv"); (case b => walk_at "jv"); (case c => walk_at "jv"))
  | ((with_reducible refine' jv_not ?a); (case a => walk_at "jv"))
  | ((with_reducible refine' jv_len ?a); (case a => walk_at "js"))
  | ((with_reducible refine' jv_lenU ?a); (case a => walk_at "ju"))
  | ((with_reducible refine' jv_min2 ?a ?b); (case a => walk_at "jv"); (case b => walk_at "jv"))
  | ((with_reducible refine' jv_max2 ?a ?b); (case a => walk_at "jv"); (case b => walk_at "jv"))
  | assumption)
local macro_rules | `(tactic| walk_at "js") => `(tactic| first
  | exact js_var rfl
  | exact js_own rfl
  | exact Jd.lowS (js_var rfl)
  | assumption
  | exact Jd.nS (by assumption))
local macro_rules | `(tactic| walk_at "ju") => `(tactic| first
  | exact ju_var rfl
  | assumption)
local macro_rules | `(tactic| walk_at "jd") => `(tactic| first
  | exact jd_var rfl
  | exact Jd.low (jd_var rfl)
  | exact Jd.low (by assumption)
  | assumption
  | ((refine' Jd.int (Jd.eqV ?a ?b)); (case a => walk_at "jv"); (case b => first | rfl | (congr 1; omega)))
  | ((refine' Jd.bool ?a); (case a => walk_at "jv")))
local macro_rules | `(tactic| walk_at "jf") => `(tactic| first
  | exact jf_nil
  | ((with_reducible refine' jf_cons ?a ?b); (case a => walk_at "jd"); (case b => walk_at "jf")))
local macro_rules | `(tactic| walk_at "less") => `(tactic| first
  | exact LessI.nil
  | (refine LessI.keep ?_; walk_at "less")
  | (refine LessI.drop ?_; walk_at "less"))
local macro_rules | `(tactic| walk_at "loop") => `(tactic| (refine' run_loopW ?x ?y; (case x => exact rfl); (case y => walk_at "less")))

section
variable {P : Program} {w : World} {K : PySem.W.Frag} {mg : Str → Option Value} {base : Heap}

-- leans on ok_marks_of ok_is_open
def preGo (ds : List D) : Prop := ∃ (n : Nat) (ts : List Tie) (S : List Nat) (t : Nat), ds = [natD n, .list (ts.map tieD), numsD S, natD t] ∧ NetOk n ts ∧ InS ts.length S ∧ S.length ≤ 100 ∧ t ≤ ts.length
def postGo (ds : List D) (out : Out) : Prop := ∃ (n : Nat) (ts : List Tie) (S : List Nat) (t : Nat), ds = [natD n, .list (ts.map tieD), numsD S, natD t] ∧ out = .val (natD (TT.T (comps n (pick ts S)) (qt n (pick ts S) (ts.drop t))))
theorem ok_goings_on (T : Tx K mg) : FnOk P w K mg base (L2.CX P w) 6 T.a_goings_on T.d_goings_on ["many", "ties", "some", "tie"] (spD K T.cl [false, false, false, false] true preGo postGo) := by
  refine fnD T.F_goings_on sc_goings_on rfl fun cdv A outer s E M B H Q ds hr hp wf ho => ?_
  obtain ⟨n, ts, S, t, rfl, nk, hS, sl, tl⟩ := hp
  have l1 := nk.le
  have l2 := nk.len
  have n0 := nk.pos
  have pb := pick_inb nk.inb hS
  have ml := (marks_ok pb).len
  refine ⟨_, (pss_cons (ps_set (i := 4) sc_goings_on.nd rfl (Or.inr rfl) (pe_callS (ok_marks_of T) (hr.mono (by decide)) (by rfl) T.g_marks_of T.F_marks_of.kp T.b_marks_of (fun σ => passAt (takes_of rfl rfl rfl rfl) σ) (pa_cons (pv 0) (pa_cons (pe_lc (own := [("one", 5)]) rfl sc_goings_on.nd (list_pi K rfl (pv 2)) (blkOk_by (own := [("one", 5)]) (N := ["many", "ties", "some", "tie", "marks", "one", "names", "left", "other"]) (sc := defScope s_goings_on) (by decide +kernel)) (fun _ _ _ _ _ => (pg_name (i := 5) sc_goings_on.nd rfl (Or.inl rfl))) (fun _ _ _ _ _ => pts_nil) (fun _ _ _ _ _ => (pe_ix (ix_K K rfl) (pv 1) (pv 5) (fun _ _ => rfl)))) pa_nil))))
      (pss_cons (ps_set (i := 6) sc_goings_on.nd rfl (Or.inr rfl) (pe_callB (sortS_K w rfl rfl) (by rfl) T.n_sorted (by decide +kernel) (pa_cons (pe_callTy (set_K K w rfl rfl rfl) (by rfl) T.n_set (by decide +kernel) (pa_cons (pv 4) pa_nil)) pa_nil)))
      (pss_cons (ps_setLc (i := 7) (own := [("one", 5), ("other", 8)]) rfl sc_goings_on.nd rfl rfl (sw_true rfl rfl rfl (by decide +kernel)) (list_pi K rfl (pe_slice (sl_K K rfl) (pv 1) (po_some (pv 3)) po_none)) (blkOk_by (own := [("one", 5), ("other", 8)]) (N := ["many", "ties", "some", "tie", "marks", "one", "names", "left", "other"]) (sc := defScope s_goings_on) (by decide +kernel)) (fun _ _ _ _ _ => (pgt_K K (n := 2) rfl rfl (pgs_cons (pg_name (i := 5) sc_goings_on.nd rfl (Or.inl rfl)) (pgs_cons (pg_name (i := 8) sc_goings_on.nd rfl (Or.inl rfl)) pgs_nil)))) (fun _ _ _ _ _ => pts_nil) (fun _ _ _ _ _ => (pe_tup (pa_cons (bm_K K rfl PySem.F.plainAttrs_list PySem.F.slot_list_index PySem.F.type_list_index (index_K K rfl) (pv 6) (pa_cons (pe_ix (ix_K K rfl) (pv 4) (pv 5) (fun _ _ => rfl)) pa_nil)) (pa_cons (bm_K K rfl PySem.F.plainAttrs_list PySem.F.slot_list_index PySem.F.type_list_index (index_K K rfl) (pv 6) (pa_cons (pe_ix (ix_K K rfl) (pv 4) (pv 8) (fun _ _ => rfl)) pa_nil)) pa_nil)))))
      (pss_one (ps_ret (pe_callS (ok_tally T) (hr.mono (by decide)) (by rfl) T.g_tally T.F_tally.kp T.b_tally (fun σ => passAt (takes_of rfl rfl rfl rfl) σ) (pa_cons (pe_callB (len_K K rfl) (by rfl) T.n_len (by decide +kernel) (pa_cons (pv 6) pa_nil)) (pa_cons (pv 7) pa_nil)))))))), ?_⟩
  refine run_set (n := true) (jd_marksS pb (by omega) (by rw [pick_len]; omega) (jd_var rfl) (jn_pick rfl (js_var rfl) hS sl (show (5 : Nat) < 9 by decide) (by decide)).nD) ?_
  refine run_set (n := true) (d := .list ((roots n (pick ts S)).map natD)) (jn_names pb l1 rfl).nD ?_
  have rl : (roots n (pick ts S)).length ≤ n := by
    have := List.length_filter_le (fun a => decide (mk n (pick ts S) a = a)) (List.range n)
    rw [List.length_range] at this
    exact this
  have dl : (ts.drop t).length ≤ 16 := by rw [List.length_drop]; omega
  have ix : ∀ (i : Nat) (p : Nat) (env : List Sl), p < n → env[4]? = some (.val true (.list ((marks n (pick ts S)).map natD))) → env[6]? = some (.val true (.list ((roots n (pick ts S)).map natD))) → env[i]? = some (.val false (natD p)) → JV K (tBM K "list" (rIndex K) (tVar 6) (tCons (tOp (rIx K) (tVar 4) (tVar i)) tNil)) env (.int (qp n (pick ts S) p : Int)) := fun i p env hp h4 h6 hi => by
    refine jv_index (ns := (roots n (pick ts S)).map fun p => ((p : Nat) : Int)) (k := (mk n (pick ts S) p : Int)) ((js_var h6).eqS (by rw [List.map_map]; rfl)) ((jd_ixE (enc := natD) p 0 (js_var h4) (jv_var hi rfl) rfl (by omega)).toV rfl) ?_ fun m z hm hz e => ?_
    · rw [List.getElem?_map, qp_get pb hp]
      rfl
    · rw [List.getElem?_map] at hz
      obtain ⟨y, hy1, hy2⟩ := Option.map_eq_some_iff.mp hz
      have ye : y = mk n (pick ts S) p := by omega
      obtain ⟨ml, me⟩ := List.getElem?_eq_some_iff.mp hy1
      have := roots_nodup.idxOf_getElem m ml
      rw [me, ye] at this
      have e2 : qp n (pick ts S) p = m := this
      omega
  refine run_set (n := true) (d := .list ((qt n (pick ts S) (ts.drop t)).map tieD)) (((jn_mapL (enc := tieD) (n0 := false) (n := true) (ts.drop t) (fun u => tieD (qp n (pick ts S) u.1, qp n (pick ts S) u.2)) (((jn_slice (js_var rfl) (jo_some (jv_var rfl rfl)) jo_none).eqN ?_).nS) (by omega) fun u hu => ⟨_, tg_two, ?_⟩).eqN ?_).nD) ?_
  · rw [cutG_map]
    congr 1
    exact cutG_from ts t
  · have ub := drop_inb nk.inb u hu
    exact Jd.uD (ju_tup (ja_cons (Jd.int (ix 5 u.1 _ ub.1 rfl rfl rfl)) (ja_cons (Jd.int (ix 8 u.2 _ ub.2 rfl rfl rfl)) ja_nil)) (by simp))
  · unfold qt
    rw [List.map_map]
    rfl
  · have nk2 : NetOk (comps n (pick ts S)) (qt n (pick ts S) (ts.drop t)) := ⟨comps_pos pb n0, Nat.le_trans rl l1, by unfold qt; rw [List.length_map]; exact dl, qt_inb pb (drop_inb nk.inb)⟩
    exact run_ret (n := true) (jd_callS (jf_cons (d := natD (comps n (pick ts S))) (Jd.int (j := (comps n (pick ts S) : Int)) ((jv_len (js_var rfl)).eqV (by rw [List.length_map]; rfl))) (jf_cons (jd_var rfl).low jf_nil)) (preNet_of _ _) fun out po => .inl (postOr_net nk2 po)) (ho _ ⟨n, ts, S, t, rfl, rfl⟩)
theorem go_inj {n : Nat} {ts : List Tie} {S : List Nat} {t : Nat} {out : Out} (p : postGo [natD n, .list (ts.map tieD), numsD S, natD t] out) : out = .val (natD (TT.T (comps n (pick ts S)) (qt n (pick ts S) (ts.drop t)))) := by
  obtain ⟨n', ts', S', t', e, po⟩ := p
  obtain ⟨e1, e2⟩ := one_cons e
  obtain ⟨e2, e3⟩ := one_cons e2
  obtain ⟨e3, e4⟩ := one_cons e3
  rw [natD_inj e1, ties_inj (PyData.list.inj e2), nums_inj e3, natD_inj (one_cons e4).1]
  exact po

end
end Tr

namespace Tr
open PySem L2 DL TT
local macro_rules | `(tactic| walk_at "jv") => `(tactic| first
  | exact jv_c
  | exact jv_var rfl rfl
  | ((with_reducible refine' jv_add ?a ?b); (case a => walk_at "jv"); (case b => walk_at "jv"))
  | ((with_reducible refine' jv_sub ?a ?b); (case a => walk_at "jv"); (case b => walk_at "jv"))
  | ((with_reducible refine' jv_lt ?a ?b); (case a => walk_at "jv"); (case b => walk_at "jv"))
  | ((with_reducible refine' jv_le ?a ?b); (case a => walk_at "jv"); (case b => walk_at "jv"))
  | ((with_reducible refine' jv_gt ?a ?b); (case a => walk_at "jv"); (case b => walk_at "jv"))
  | ((with_reducible refine' jv_ge ?a ?b); (case a => walk_at "jv"); (case b => walk_at "jv"))
  | ((with_reducible refine' jv_eqI ?a ?b); (case a => walk_at "jv"); (case b => walk_at "jv"))
  | ((with_reducible refine' jv_neI ?a ?b); (case a => walk_at "jv"); (case b => walk_at "jv"))
  | ((with_reducible refine' jv_chain ?a ?b ?c); (case a => walk_at "jv"); (case b => walk_at "jv"); (case c => walk_at "jv"))
  | ((with_reducible refine' jv_not ?a); (case a => walk_at "jv"))
  | ((with_reducible refine' jv_len ?a); (case a => walk_at "js"))
  | ((with_reducible refine' jv_lenU ?a); (case a => walk_at "ju"))
  | ((with_reducible refine' jv_min2 ?a ?b); (case a => walk_at "jv"); (case b => walk_at "jv"))
  | ((with_reducible refine' jv_max2 ?a ?b); (case a => walk_at "jv"); (case b => walk_at "jv"))
  | assumption)
local macro_rules | `(tactic| walk_at "js") => `(tactic| first
  | exact js_var rfl
  | exact js_own rfl
  | exact Jd.lowS (js_var rfl)
  | assumption
  | exact Jd.nS (by assumption))
local macro_rules | `(tactic| walk_at "ju") => `(tactic| first
  | exact ju_var rfl
  | assumption)
local macro_rules | `(tactic| walk_at "jd") => `(tactic| first
  | exact jd_var rfl
  | exact Jd.low (jd_var rfl)
  | exact Jd.low (by assumption)
  | assumption
  | ((refine' Jd.int (Jd.eqV ?a ?b)); (case a => walk_at "jv"); (case b => first | rfl | (congr 1; omega)))
  | ((refine' Jd.bool ?a); (case a => walk_at "jv")))
local macro_rules | `(tactic| walk_at "jf") => `(tactic| first
  | exact jf_nil
  | ((with_reducible refine' jf_cons ?a ?b); (case a => walk_at "jd"); (case b => walk_at "jf")))
local macro_rules | `(tactic| walk_at "less") => `(tactic| first
  | exact LessI.nil
  | (refine LessI.keep ?_; walk_at "less")
  | (refine LessI.drop ?_; walk_at "less"))
local macro_rules | `(tactic| walk_at "loop") => `(tactic| (refine' run_loopW ?x ?y; (case x => exact rfl); (case y => walk_at "less")))

section
variable {P : Program} {w : World} {K : PySem.W.Frag} {mg : Str → Option Value} {base : Heap}

def preWith (ds : List D) : Prop := ∃ (n : Nat) (ts : List Tie) (S : List Nat) (t : Nat), ds = [natD n, .list (ts.map tieD), numsD S, natD t] ∧ NetOk n ts ∧ InS ts.length S ∧ Forest n (pick ts S) ∧ t < ts.length
def postWith (ds : List D) (out : Out) : Prop := ∃ (n : Nat) (ts : List Tie) (S : List Nat) (t : Nat), ds = [natD n, .list (ts.map tieD), numsD S, natD t] ∧ out = .val (natD (ahead n ts S t))
theorem ok_with_tie (T : Tx K mg) : FnOk P w K mg base (L2.CX P w) 7 T.a_with_tie T.d_with_tie ["many", "ties", "some", "tie"] (spD K T.cl [false, false, false, false] true preWith postWith) := by
  refine fnD T.F_with_tie sc_with_tie rfl fun cdv A outer s E M B H Q ds hr hp wf ho => ?_
  obtain ⟨n, ts, S, t, rfl, nk, hS, fo, tl⟩ := hp
  have n0 := nk.pos
  have l1 := nk.le
  have pb := pick_inb nk.inb hS
  have sl := forest_len pb n0 fo
  rw [pick_len] at sl
  refine ⟨_, (pss_cons (ps_if (pt_not (pt_val (pe_callS (ok_is_open T) (hr.mono (by decide)) (by rfl) T.g_is_open T.F_is_open.kp T.b_is_open (fun σ => passAt (takes_of rfl rfl rfl rfl) σ) (pa_cons (pv 0) (pa_cons (pv 1) (pa_cons (pv 2) (pa_cons (pv 3) pa_nil)))))))
      (pss_one (ps_ret pe_int)) pss_nil)
      (pss_one (ps_ret (pe_callS (ok_goings_on T) (hr.mono (by decide)) (by rfl) T.g_goings_on T.F_goings_on.kp T.b_goings_on (fun σ => passAt (takes_of rfl rfl rfl rfl) σ) (pa_cons (pv 0) (pa_cons (pv 1) (pa_cons (pe_op op_addD (pv 2) (pe_lst (pa_cons (pv 3) pa_nil))) (pa_cons (pe_op op_addD (pv 3) pe_int) pa_nil)))))))), ?_⟩
  have ret := ho _ ⟨n, ts, S, t, rfl, rfl⟩
  refine run_if (b := !opens n ts S t) (jt_not (jt_B (jv_callS (d := .bool (opens n ts S t)) (jf_cons (jd_var rfl) (jf_cons (jd_var rfl) (jf_cons (jd_var rfl) (jf_cons (jd_var rfl) jf_nil)))) ⟨n, ts, S, t, rfl, nk, hS, by omega, tl⟩ (fun out po => open_inj po) rfl))) (fun q => ?_) (fun q => run_next ?_)
  · have q' : opens n ts S t = false := by simpa using q
    have e : ahead n ts S t = 0 := by
      unfold ahead
      rw [q']
      rfl
    rw [e] at ret
    exact run_retSeq (run_retV (v := .int 0) (n := true) (d := natD 0) jv_c rfl ret)
  · have q' : opens n ts S t = true := by simpa using q
    have e : ahead n ts S t = TT.T (comps n (pick ts (S ++ [t]))) (qt n (pick ts (S ++ [t])) (ts.drop (t + 1))) := by
      unfold ahead
      rw [if_pos q']
      exact HH_len nk.inb n0 (push_in hS tl) ((open_forest nk.inb hS tl).mpr ⟨fo, opens_iff.mp q'⟩)
    rw [e] at ret
    refine run_ret (n := true) (jd_callS (jf_cons (jd_var rfl) (jf_cons (jd_var rfl) (jf_cons (d := numsD (S ++ [t])) ?_ (jf_cons (d := natD (t + 1)) (Jd.int (j := ((t + 1 : Nat) : Int)) ((jv_add (jv_var rfl rfl) jv_c).eqV (by congr 1))) jf_nil)))) ⟨n, ts, S ++ [t], t + 1, rfl, nk, push_in hS tl, by simp; omega, by omega⟩ fun out po => .inl (go_inj po)) ret
    exact ((jn_cat (n := false) (ds := S.map natD) (es := [t].map natD) (js_var rfl) (jn_lst (n := false) (ja_cons (jd_var rfl) ja_nil) (by simp)).nS (by simp; omega)).nD).eqD (by rw [← List.map_append]; rfl)
theorem with_inj {n : Nat} {ts : List Tie} {S : List Nat} {t : Nat} {out : Out} (p : postWith [natD n, .list (ts.map tieD), numsD S, natD t] out) : out = .val (natD (ahead n ts S t)) := by
  obtain ⟨n', ts', S', t', e, po⟩ := p
  obtain ⟨e1, e2⟩ := one_cons e
  obtain ⟨e2, e3⟩ := one_cons e2
  obtain ⟨e3, e4⟩ := one_cons e3
  rw [natD_inj e1, ties_inj (PyData.list.inj e2), nums_inj e3, natD_inj (one_cons e4).1]
  exact po
theorem jv_withC {cl : XC → Addr} {t1 t2 t3 t4 : TE} {env : List Sl} {n : Nat} {ts : List Tie} {S : List Nat} {t : Nat} (nk : NetOk n ts) (hS : InS ts.length S) (fo : Forest n (pick ts S)) (tl : t < ts.length) (h1 : JD K t1 env false (natD n)) (h2 : JD K t2 env false (.list (ts.map tieD))) (h3 : JD K t3 env false (numsD S)) (h4 : JD K t4 env false (natD t)) :
    JV K (tCall (spD K cl [false, false, false, false] true preWith postWith) [] E0 (tCons t1 (tCons t2 (tCons t3 (tCons t4 tNil))))) env (.int (ahead n ts S t : Int)) :=
  jv_call (d := natD (ahead n ts S t)) (jf_cons h1 (jf_cons h2 (jf_cons h3 (jf_cons h4 jf_nil)))) ⟨n, ts, S, t, rfl, nk, hS, fo, tl⟩ (fun out po => with_inj po) rfl

end
end Tr

namespace Tr
open PySem L2 DL TT
local macro_rules | `(tactic| walk_at "jv") => `(tactic| first
  | exact jv_c
  | exact jv_var rfl rfl
  | ((with_reducible refine' jv_add ?a ?b); (case a => walk_at "jv"); (case b => walk_at "jv"))
  | ((with_reducible refine' jv_sub ?a ?b); (case a => walk_at "jv"); (case b => walk_at "jv"))
  | ((with_reducible refine' jv_lt ?a ?b); (case a => walk_at "jv"); (case b => walk_at "jv"))
  | ((with_reducible refine' jv_le ?a ?b); (case a => walk_at "jv"); (case b => walk_at "jv"))
  | ((with_reducible refine' jv_gt ?a ?b); (case a => walk_at "jv"); (case b => walk_at "jv"))
  | ((with_reducible refine' jv_ge ?a ?b); (case a => walk_at "jv"); (case b => walk_at "jv"))
  | ((with_reducible refine' jv_eqI ?a ?b); (case a => walk_at "jv"); (case b => walk_at "jv"))
  | ((with_reducible refine' jv_neI ?a ?b); (case a => walk_at "jv"); (case b => walk_at "jv"))
  | ((with_reducible refine' jv_chain ?a ?b ?c); (case a => walk_at "jv"); (case b => walk_at "jv"); (case c => walk_at "jv"))
  | ((with_reducible refine' jv_not ?a); (case a => walk_at "jv"))
  | ((with_reducible refine' jv_len ?a); (case a => walk_at "js"))
  | ((with_reducible refine' jv_lenU ?a); (case a => walk_at "ju"))
  | ((with_reducible refine' jv_min2 ?a ?b); (case a => walk_at "jv"); (case b => walk_at "jv"))
  | ((with_reducible refine' jv_max2 ?a ?b); (case a => walk_at "jv"); (case b => walk_at "jv"))
  | assumption)
local macro_rules | `(tactic| walk_at "js") => `(tactic| first
  | exact js_var rfl
  | exact js_own rfl
  | exact Jd.lowS (js_var rfl)
  | assumption
  | exact Jd.nS (by assumption))
local macro_rules | `(tactic| walk_at "ju") => `(tactic| first
  | exact ju_var rfl
  | assumption)
local macro_rules | `(tactic| walk_at "jd") => `(tactic| first
  | exact jd_var rfl
  | exact Jd.low (jd_var rfl)
  | exact Jd.low (by assumption)
  | assumption
  | ((refine' Jd.int (Jd.eqV ?a ?b)); (case a => walk_at "jv"); (case b => first | rfl | (congr 1; omega)))
  | ((refine' Jd.bool ?a); (case a => walk_at "jv")))
local macro_rules | `(tactic| walk_at "jf") => `(tactic| first
  | exact jf_nil
  | ((with_reducible refine' jf_cons ?a ?b); (case a => walk_at "jd"); (case b => walk_at "jf")))
local macro_rules | `(tactic| walk_at "less") => `(tactic| first
  | exact LessI.nil
  | (refine LessI.keep ?_; walk_at "less")
  | (refine LessI.drop ?_; walk_at "less"))
local macro_rules | `(tactic| walk_at "loop") => `(tactic| (refine' run_loopW ?x ?y; (case x => exact rfl); (case y => walk_at "less")))

section
variable {P : Program} {w : World} {K : PySem.W.Frag} {mg : Str → Option Value} {base : Heap}

-- leans on ok_is_hanging
def outHof (n : Nat) (ts : List Tie) (d : D) (out : Out) : Prop := (isBelow d (TT.T n ts : Int) = false ∧ out = .err .numb) ∨ ∃ (k : Nat) (S : List Nat), d = natD k ∧ (allH n ts)[k]? = some S ∧ out = .new (S.map natD)
theorem ok_hanging_of (T : Tx K mg) : FnOk P w K mg base (L2.CX P w) 8 T.a_hanging_of T.d_hanging_of ["many", "ties", "number"] (spD K T.cl [false, false, false] true preArg (postArg outHof)) := by
  refine fnD T.F_hanging_of sc_hanging_of rfl fun cdv A outer s E M B H Q ds hr hp wf ho => ?_
  obtain ⟨m, t, d, rfl, hm, ht, hd, _⟩ := hp
  refine ⟨_, (pss_cons (ps_if (pt_not (pt_val (pe_callS (ok_is_below T) (hr.mono (by decide)) (by rfl) T.g_is_below T.F_is_below.kp T.b_is_below (fun σ => passAt (takes_of rfl rfl rfl rfl) σ) (pa_cons (pv 2) (pa_cons (pe_callS (ok_tally T) (hr.mono (by decide)) (by rfl) T.g_tally T.F_tally.kp T.b_tally (fun σ => passAt (takes_of rfl rfl rfl rfl) σ) (pa_cons (pv 0) (pa_cons (pv 1) pa_nil))) pa_nil)))))
      (pss_one (ps_raise rfl (takes_of rfl rfl rfl rfl) (pmk_own PySem.F.excBase_ValueError T.x_BadNumber T.gC_BadNumber T.kC_BadNumber (raises_own T.bC_BadNumber T.tC_BadNumber) (by rfl)))) pss_nil)
      (pss_cons (ps_set (i := 3) sc_hanging_of.nd rfl (Or.inl rfl) (pe_lst pa_nil))
      (pss_cons (PS.nox (ps_for PassesOwn.never rfl (pi_range1 (by rfl) T.n_range (pa_cons (pe_callB (len_K K rfl) (by rfl) T.n_len (by decide +kernel) (pa_cons (pv 1) pa_nil)) pa_nil)) (pg_name (i := 4) sc_hanging_of.nd rfl (Or.inl rfl))
      (pss_cons (ps_set (i := 5) sc_hanging_of.nd rfl (Or.inl rfl) (pe_call (ok_with_tie T) (hr.mono (by decide)) (by rfl) T.g_with_tie T.F_with_tie.kp T.b_with_tie .nil passL (pa_cons (pv 0) (pa_cons (pv 1) (pa_cons (pv 3) (pa_cons (pv 4) pa_nil))))))
      (pss_one (ps_if (pt_cmpR op_lt (pv 2) (pv 5) (nomark _))
      (pss_one (ps_expr (bm_K K rfl PySem.F.plainAttrs_list PySem.F.slot_list_append PySem.F.type_list_append mt_append (pv 3) (pa_cons (pv 4) pa_nil)))) (pss_one (ps_set (i := 2) sc_hanging_of.nd rfl (Or.inl rfl) (pe_op op_sub (pv 2) (pv 5)))))))))
      (pss_one (ps_ret (pv 3)))))), ?_⟩
  cases hn : isNet m t with
  | false =>
    refine run_ifE (c := .ref (T.cl .net)) (fun L σ H Q g q => ?_) fun H' s => ho _ ⟨m, t, d, rfl, .inl ⟨hn, rfl⟩⟩ H' s
    exact er_args (er_later (jd_var rfl) (er_first (er_call (jf_cons (jd_var rfl) (jf_cons (jd_var rfl) jf_nil)) ⟨m, t, rfl, hm, ht⟩ fun out po => postOr_bad hn po))) L σ H _ g q
  | true =>
    obtain ⟨n, ts, rfl, rfl, nk⟩ := isNet_inv hn
    have n0 := nk.pos
    have l1 := nk.le
    have l2 := nk.len
    have tb := nk.inb
    have below : ∀ {E' E''}, JV K (tCallS (spD K T.cl [false, false] true preBelow postBelow) E' (tCons (tVar 2) (tCons (tCallS (spD K T.cl [false, false] true preNet (postOr outTally)) E'' (tCons (tVar 0) (tCons (tVar 1) tNil))) tNil))) (argEnv [false, false, false] [natD n, .list (ts.map tieD), d] 6) (.bl (isBelow d (TT.T n ts : Int))) := fun {E' E''} =>
      jv_callS (d := .bool (isBelow d (TT.T n ts : Int))) (jf_cons (jd_var rfl) (jf_cons (jd_callS (d := natD (TT.T n ts)) (jf_cons (jd_var rfl) (jf_cons (jd_var rfl) jf_nil)) ⟨_, _, rfl, hm, ht⟩ fun out po => .inl (postOr_net nk po)).low jf_nil)) ⟨d, (TT.T n ts : Int), rfl, hd⟩ (fun out ⟨d', b', e, po⟩ => by
        obtain ⟨e1, e2⟩ := one_cons e
        rw [po, ← e1, ← PyData.int.inj (one_cons e2).1]) rfl
    refine run_if (b := !isBelow d (TT.T n ts : Int)) (jt_not (jt_B below)) (fun q => ?_) (fun q => run_next ?_)
    · have q' : isBelow d (TT.T n ts : Int) = false := by simpa using q
      have r2 : ∀ H', Same H H' → E (.ref (T.cl .numb)) none H' := fun H' s => ho _ ⟨_, _, d, rfl, .inr ⟨n, ts, rfl, rfl, nk, .inl ⟨q', rfl⟩⟩⟩ H' s
      rw [T.cl_BadNumber] at r2
      exact run_raiseSeq (run_raise r2) fun _ _ _ h => h
    · obtain ⟨N, rfl, hN⟩ := isBelow_inv (by simpa using q)
      have hN' : N < TT.T n ts := by omega
      refine run_setN (n := true) (ds := ([] : List Nat).map natD) (jn_lst ja_nil (Nat.zero_le _)) ?_
      refine run_forR (k := (ts.length : Int)) (fun t env => ∃ (sm : List Nat) (k : Nat) (e2 : Bool), env = [.val false (natD n), .val false (.list (ts.map tieD)), .val e2 (natD k), .own true (sm.map natD), .un, .un] ∧ Find n ts N t sm k) ((jv_len (js_var rfl)).eqV (by rw [List.length_map])) (by omega) (by omega) ⟨[], N, false, rfl, Find.start hN'⟩ (fun t env1 ht ⟨sm, k, e2, e1, F⟩ => ?_) (fun env1 ⟨sm, k, e2, e1, F⟩ => ?_)
      · subst e1
        have tl : t < ts.length := by omega
        have sl := rise_len F.rise F.ins
        refine run_setVV (i := 3) (n := true) (ds := sm.map natD) (d := natD (ahead n ts sm t)) rfl (jv_withC nk F.ins F.fo tl (jd_var rfl) (jd_var rfl) ((jd_var rfl).low) (jd_nat rfl)) rfl ?_
        refine run_one (run_if (b := decide ((k : Int) < (ahead n ts sm t : Int))) (jt_test (jv_lt (jv_var rfl rfl) (jv_var rfl rfl))) (fun q => ?_) (fun q => ?_))
        · have q' := of_decide_eq_true q
          refine run_one (run_appendE (es := (sm ++ [t]).map natD) rfl (d := natD t) (jd_var rfl) (by rw [List.length_map]; omega) (run_loopW (env' := [.val false (natD n), .val false (.list (ts.map tieD)), .val e2 (natD k), .own true ((sm ++ [t]).map natD), .un, .un]) ⟨sm ++ [t], k, e2, rfl, F.take tb n0 tl (by omega)⟩ (by walk_at "less")) (by rw [List.map_append]; rfl))
        · have q' := of_decide_eq_false q
          refine run_one (run_set (n := true) (d := natD (k - ahead n ts sm t)) (Jd.int (j := ((k - ahead n ts sm t : Nat) : Int)) ((jv_sub (jv_var rfl rfl) (jv_var rfl rfl)).eqV (by congr 1; omega))) (run_loopW (env' := [.val false (natD n), .val false (.list (ts.map tieD)), .val true (natD (k - ahead n ts sm t)), .own true (sm.map natD), .un, .un]) ⟨sm, _, true, rfl, F.leave tb n0 tl (by omega)⟩ (by walk_at "less")))
      · subst e1
        rw [Int.toNat_natCast] at F
        exact run_retO rfl (ho _ ⟨_, _, _, rfl, .inr ⟨n, ts, rfl, rfl, nk, .inr ⟨N, sm, rfl, F.done, rfl⟩⟩⟩)
theorem hof_at {n : Nat} {ts : List Tie} {i : Nat} {S : List Nat} {out : Out} (nk : NetOk n ts) (h : (allH n ts)[i]? = some S) (p : postArg outHof [natD n, .list (ts.map tieD), natD i] out) : out = .new (S.map natD) := by
  rcases postArg_net nk p with ⟨b, _⟩ | ⟨k, S', e, h', po⟩
  · have l := (List.getElem?_eq_some_iff.mp h).1
    rw [allH_len] at l
    have : isBelow (natD i) (TT.T n ts : Int) = true := by
      show (decide (0 ≤ (i : Int)) && decide ((i : Int) < (TT.T n ts : Int))) = true
      simp only [Bool.and_eq_true, decide_eq_true_eq]
      omega
    rw [this] at b
    cases b
  · rw [natD_inj e, h'] at h
    rw [po, Option.some.inj h]

end
end Tr

namespace Tr
open PySem L2 DL TT
local macro_rules | `(tactic| walk_at "jv") => `(tactic| first
  | exact jv_c
  | exact jv_var rfl rfl
  | ((with_reducible refine' jv_add ?a ?b); (case a => walk_at "jv"); (case b => walk_at "jv"))
  | ((with_reducible refine' jv_sub ?a ?b); (case a => walk_at "jv"); (case b => walk_at "jv"))
  | ((with_reducible refine' jv_lt ?a ?b); (case a => walk_at "jv"); (case b => walk_at "jv"))
  | ((with_reducible refine' jv_le ?a ?b); (case a => walk_at "jv"); (case b => walk_at "jv"))
  | ((with_reducible refine' jv_gt ?a ?b); (case a => walk_at "jv"); (case b => walk_at "jv"))
  | ((with_reducible refine' jv_ge ?a ?b); (case a => walk_at "jv"); (case b => walk_at "jv"))
  | ((with_reducible refine' jv_eqI ?a ?b); (case a => walk_at "jv"); (case b => walk_at "jv"))
  | ((with_reducible refine' jv_neI ?a ?b); (case a => walk_at "jv"); (case b => walk_at "jv"))
  | ((with_reducible refine' jv_chain ?a ?b ?c); (case a => walk_at "jv"); (case b => walk_at "jv"); (case c => walk_at "jv"))
  | ((with_reducible refine' jv_not ?a); (case a => walk_at "jv"))
  | ((with_reducible refine' jv_len ?a); (case a => walk_at "js"))
  | ((with_reducible refine' jv_lenU ?a); (case a => walk_at "ju"))
  | ((with_reducible refine' jv_min2 ?a ?b); (case a => walk_at "jv"); (case b => walk_at "jv"))
  | ((with_reducible refine' jv_max2 ?a ?b); (case a => walk_at "jv"); (case b => walk_at "jv"))
  | assumption)
local macro_rules | `(tactic| walk_at "js") => `(tactic| first
  | exact js_var rfl
  | exact js_own rfl
  | exact Jd.lowS (js_var rfl)
  | assumption
  | exact Jd.nS (by assumption))
local macro_rules | `(tactic| walk_at "ju") => `(tactic| first
  | exact ju_var rfl
  | assumption)
local macro_rules | `(tactic| walk_at "jd") => `(tactic| first
  | exact jd_var rfl
  | exact Jd.low (jd_var rfl)
  | exact Jd.low (by assumption)
  | assumption
  | ((refine' Jd.int (Jd.eqV ?a ?b)); (case a => walk_at "jv"); (case b => first | rfl | (congr 1; omega)))
  | ((refine' Jd.bool ?a); (case a => walk_at "jv")))
local macro_rules | `(tactic| walk_at "jf") => `(tactic| first
  | exact jf_nil
  | ((with_reducible refine' jf_cons ?a ?b); (case a => walk_at "jd"); (case b => walk_at "jf")))
local macro_rules | `(tactic| walk_at "less") => `(tactic| first
  | exact LessI.nil
  | (refine LessI.keep ?_; walk_at "less")
  | (refine LessI.drop ?_; walk_at "less"))
local macro_rules | `(tactic| walk_at "loop") => `(tactic| (refine' run_loopW ?x ?y; (case x => exact rfl); (case y => walk_at "less")))

section
variable {P : Program} {w : World} {K : PySem.W.Frag} {mg : Str → Option Value} {base : Heap}

def outNof (n : Nat) (ts : List Tie) (d : D) (out : Out) : Prop := (isHangD n ts d = false ∧ out = .err .hang) ∨ ∃ S, S ∈ allH n ts ∧ d = numsD S ∧ out = .val (natD (numOf n ts S))
theorem ok_number_of (T : Tx K mg) : FnOk P w K mg base (L2.CX P w) 8 T.a_number_of T.d_number_of ["many", "ties", "some"] (spD K T.cl [false, false, false] true preArg (postArg outNof)) := by
  refine fnD T.F_number_of sc_number_of rfl fun cdv A outer s E M B H Q ds hr hp wf ho => ?_
  obtain ⟨m, t, d, rfl, hm, ht, hd, hl⟩ := hp
  refine ⟨_, (pss_cons (ps_if (pt_not (pt_val (pe_callS (ok_is_hanging T) (hr.mono (by decide)) (by rfl) T.g_is_hanging T.F_is_hanging.kp T.b_is_hanging (fun σ => passAt (takes_of rfl rfl rfl rfl) σ) (pa_cons (pv 0) (pa_cons (pv 1) (pa_cons (pv 2) pa_nil))))))
      (pss_one (ps_raise rfl (takes_of rfl rfl rfl rfl) (pmk_own PySem.F.excBase_ValueError T.x_BadHanging T.gC_BadHanging T.kC_BadHanging (raises_own T.bC_BadHanging T.tC_BadHanging) (by rfl)))) pss_nil)
      (pss_cons (ps_set (i := 3) sc_number_of.nd rfl (Or.inl rfl) pe_int)
      (pss_cons (PS.nox (ps_for PassesOwn.never rfl (pi_range1 (by rfl) T.n_range (pa_cons (pe_callB (len_K K rfl) (by rfl) T.n_len (by decide +kernel) (pa_cons (pv 1) pa_nil)) pa_nil)) (pg_name (i := 4) sc_number_of.nd rfl (Or.inr rfl))
      (pss_one (ps_if (pt_cmpR (op_ninU K rfl hr) (pv 4) (pv 2) (by rfl))
      (pss_one (ps_set (i := 3) sc_number_of.nd rfl (Or.inl rfl) (pe_op op_addD (pv 3) (pe_call (ok_with_tie T) (hr.mono (by decide)) (by rfl) T.g_with_tie T.F_with_tie.kp T.b_with_tie .nil passL (pa_cons (pv 0) (pa_cons (pv 1) (pa_cons (pe_lc (own := [("one", 5)]) rfl sc_number_of.nd (list_pi K rfl (pv 2)) (blkOk_by (own := [("one", 5)]) (N := ["many", "ties", "some", "number", "tie", "one"]) (sc := defScope s_number_of) (by decide +kernel)) (fun _ _ _ _ _ => (pg_name (i := 5) sc_number_of.nd rfl (Or.inl rfl))) (fun _ _ _ _ _ => (pts_one (pt_cmpR op_lt (pv 5) (pv 4) (nomark _)))) (fun _ _ _ _ _ => (pv 5))) (pa_cons (pv 4) pa_nil)))))))) pss_nil))))
      (pss_one (ps_ret (pv 3)))))), ?_⟩
  cases hn : isNet m t with
  | false =>
    refine run_ifE (c := .ref (T.cl .net)) (fun L σ H Q g q => ?_) fun H' s => ho _ ⟨m, t, d, rfl, .inl ⟨hn, rfl⟩⟩ H' s
    exact er_call (jf_cons (jd_var rfl) (jf_cons (jd_var rfl) (jf_cons (jd_var rfl) jf_nil))) ⟨m, t, d, rfl, hm, ht, hd, hl⟩ (fun out po => postArg_bad hn po) L σ H _ g q
  | true =>
    obtain ⟨n, ts, rfl, rfl, nk⟩ := isNet_inv hn
    have n0 := nk.pos
    have l1 := nk.le
    have l2 := nk.len
    have tb := nk.inb
    refine run_if (b := !isHangD n ts d) (jt_not (jt_B (jv_callS (d := .bool (isHangD n ts d)) (jf_cons (jd_var rfl) (jf_cons (jd_var rfl) (jf_cons (jd_var rfl) jf_nil))) ⟨_, _, d, rfl, hm, ht, hd, hl⟩ (fun out po => postArg_net nk po) rfl))) (fun q => ?_) (fun q => run_next ?_)
    · have q' : isHangD n ts d = false := by simpa using q
      have r2 : ∀ H', Same H H' → E (.ref (T.cl .hang)) none H' := fun H' s => ho _ ⟨_, _, d, rfl, .inr ⟨n, ts, rfl, rfl, nk, .inl ⟨q', rfl⟩⟩⟩ H' s
      rw [T.cl_BadHanging] at r2
      exact run_raiseSeq (run_raise r2) fun _ _ _ h => h
    · obtain ⟨S, hS, rfl⟩ := isHangD_iff.mp (show isHangD n ts d = true by simpa using q)
      obtain ⟨s1, s2, s3, s4⟩ := mem_allH.mp hS
      have sl := rise_len s1 s2
      refine run_setI (z := ((0 : Nat) : Int)) (jv_c.eqV rfl) ?_
      refine run_forR (k := (ts.length : Int)) (fun t env => ∃ k : Nat, env = [.val false (natD n), .val false (.list (ts.map tieD)), .val false (numsD S), .val true (natD k), .un, .un] ∧ Num n ts S (numOf n ts S) t k) ((jv_len (js_var rfl)).eqV (by rw [List.length_map])) (by omega) (by omega) ⟨0, rfl, Num.start (numOf_at hS)⟩ (fun t env1 ht ⟨k, e1, F⟩ => ?_) (fun env1 ⟨k, e1, F⟩ => ?_)
      · subst e1
        have tl : t < ts.length := by omega
        have st := F.step tb n0 hS tl
        obtain ⟨fo, bi⟩ := below_forest tb n0 hS t
        refine run_one (run_if (b := !decide (t ∈ S)) (jt_test (jv_ninL (d := natD t) (es := S.map natD) (jd_eE (jd_var rfl) (okD_nat (k := 0) t)) (jd_eE (jd_var rfl) (okD_nums (k := 0) S)) (okD_nat (k := 0) t) (okD_nums (k := 0) S) (by rw [decide_eq_true_iff]; exact mem_natD.symm))) (fun q => ?_) (fun q => ?_))
        · have q' : t ∉ S := by simpa using q
          rw [if_neg q'] at st
          refine run_one (run_set (n := true) (d := natD (k + ahead n ts (below S t) t)) (Jd.int (j := ((k + ahead n ts (below S t) t : Nat) : Int)) ((jv_add (jv_var rfl rfl) (jv_withC nk bi fo tl (jd_var rfl) (jd_var rfl) ?_ (jd_nat rfl))).eqV (by congr 1))) (run_loopW (env' := [.val false (natD n), .val false (.list (ts.map tieD)), .val false (numsD S), .val true (natD (k + ahead n ts (below S t) t)), .un, .un]) ⟨_, rfl, st⟩ (by walk_at "less")))
          refine (jn_lcL (enc := natD) (n0 := false) (n := false) S (fun i => decide (i < t)) natD (js_var rfl) (by omega) fun i hi => ⟨_, tg_name, (jt_test (jv_lt (jv_var rfl rfl) (jv_var rfl rfl))).to ?_, fun _ => jd_var rfl⟩).nD
          rw [Bool.eq_iff_iff, decide_eq_true_iff, decide_eq_true_iff]
          omega
        · have q' : t ∈ S := by simpa using q
          rw [if_pos q'] at st
          exact run_next (run_loopW (env' := [.val false (natD n), .val false (.list (ts.map tieD)), .val false (numsD S), .val true (natD k), .un, .un]) ⟨_, rfl, st⟩ (by walk_at "less"))
      · subst e1
        rw [Int.toNat_natCast] at F
        have e := F.done
        subst e
        exact run_ret (jd_var rfl) (ho _ ⟨_, _, _, rfl, .inr ⟨n, ts, rfl, rfl, nk, .inr ⟨S, hS, rfl, rfl⟩⟩⟩)
theorem nof_at {n : Nat} {ts : List Tie} {S : List Nat} {out : Out} (nk : NetOk n ts) (h : S ∈ allH n ts) (p : postArg outNof [natD n, .list (ts.map tieD), numsD S] out) : out = .val (natD (numOf n ts S)) := by
  rcases postArg_net nk p with ⟨b, _⟩ | ⟨S', h', e, po⟩
  · rw [isHangD_nums.mpr h] at b
    cases b
  · rw [nums_inj e]
    exact po

end
end Tr

namespace Tr
open PySem L2 DL TT
local macro_rules | `(tactic| walk_at "jv") => `(tactic| first
  | exact jv_c
  | exact jv_var rfl rfl
  | ((with_reducible refine' jv_add ?a ?b); (case a => walk_at "jv"); (case b => walk_at "jv"))
  | ((with_reducible refine' jv_sub ?a ?b); (case a => walk_at "jv"); (case b => walk_at "jv"))
  | ((with_reducible refine' jv_lt ?a ?b); (case a => walk_at "jv"); (case b => walk_at "jv"))
  | ((with_reducible refine' jv_le ?a ?b); (case a => walk_at "jv"); (case b => walk_at "jv"))
  | ((with_reducible refine' jv_gt ?a ?b); (case a => walk_at "jv"); (case b => walk_at "jv"))
  | ((with_reducible refine' jv_ge ?a ?b); (case a => walk_at "jv"); (case b => walk_at "jv"))
  | ((with_reducible refine' jv_eqI ?a ?b); (case a => walk_at "jv"); (case b => walk_at "jv"))
  | ((with_reducible refine' jv_neI ?a ?b); (case a => walk_at "jv"); (case b => walk_at "jv"))
  | ((with_reducible refine' jv_chain ?a ?b ?c); (case a => walk_at "jv"); (case b => walk_at "jv"); (case c => walk_at "jv"))
  | ((with_reducible refine' jv_not ?a); (case a => walk_at "jv"))
  | ((with_reducible refine' jv_len ?a); (case a => walk_at "js"))
  | ((with_reducible refine' jv_lenU ?a); (case a => walk_at "ju"))
  | ((with_reducible refine' jv_min2 ?a ?b); (case a => walk_at "jv"); (case b => walk_at "jv"))
  | ((with_reducible refine' jv_max2 ?a ?b); (case a => walk_at "jv"); (case b => walk_at "jv"))
  | assumption)
local macro_rules | `(tactic| walk_at "js") => `(tactic| first
  | exact js_var rfl
  | exact js_own rfl
  | exact Jd.lowS (js_var rfl)
  | assumption
  | exact Jd.nS (by assumption))
local macro_rules | `(tactic| walk_at "ju") => `(tactic| first
  | exact ju_var rfl
  | assumption)
local macro_rules | `(tactic| walk_at "jd") => `(tactic| first
  | exact jd_var rfl
  | exact Jd.low (jd_var rfl)
  | exact Jd.low (by assumption)
  | assumption
  | ((refine' Jd.int (Jd.eqV ?a ?b)); (case a => walk_at "jv"); (case b => first | rfl | (congr 1; omega)))
  | ((refine' Jd.bool ?a); (case a => walk_at "jv")))
local macro_rules | `(tactic| walk_at "jf") => `(tactic| first
  | exact jf_nil
  | ((with_reducible refine' jf_cons ?a ?b); (case a => walk_at "jd"); (case b => walk_at "jf")))
local macro_rules | `(tactic| walk_at "less") => `(tactic| first
  | exact LessI.nil
  | (refine LessI.keep ?_; walk_at "less")
  | (refine LessI.drop ?_; walk_at "less"))
local macro_rules | `(tactic| walk_at "loop") => `(tactic| (refine' run_loopW ?x ?y; (case x => exact rfl); (case y => walk_at "less")))

section
variable {P : Program} {w : World} {K : PySem.W.Frag} {mg : Str → Option Value} {base : Heap}

def preShare (ds : List D) : Prop := ∃ (n : Nat) (ts : List Tie) (j : Nat), ds = [natD n, .list (ts.map tieD), natD j] ∧ NetOk n ts ∧ j < ts.length
def postShare (ds : List D) (out : Out) : Prop := ∃ (n : Nat) (ts : List Tie) (j : Nat), ds = [natD n, .list (ts.map tieD), natD j] ∧ out = .val (natD (cnt n ts j))
theorem pln_nat (k : Nat) : pln (natD k) = true := rfl
theorem ok_share_of (T : Tx K mg) : FnOk P w K mg base (L2.CX P w) 6 T.a_share_of T.d_share_of ["many", "ties", "tie"] (spD K T.cl [false, false, false] true preShare postShare) := by
  refine fnD T.F_share_of sc_share_of rfl fun cdv A outer s E M B H Q ds hr hp wf ho => ?_
  obtain ⟨n, ts, j, rfl, nk, jl⟩ := hp
  refine ⟨_, (pss_cons (ps_if (pt_cmpR (op_eqK K rfl hr.units) (pe_ix (ix_K K rfl) (pe_ix (ix_K K rfl) (pv 1) (pv 2) (fun _ _ => rfl)) pe_int (fun _ _ => rfl)) (pe_ix (ix_K K rfl) (pe_ix (ix_K K rfl) (pv 1) (pv 2) (fun _ _ => rfl)) pe_int (fun _ _ => rfl)) (nomark _))
      (pss_one (ps_ret pe_int)) pss_nil)
      (pss_cons (ps_asg (pe_callS (ok_net_together T) (hr.mono (by decide)) (by rfl) T.g_net_together T.F_net_together.kp T.b_net_together (fun σ => passAt (takes_of rfl rfl rfl rfl) σ) (pa_cons (pv 0) (pa_cons (pv 1) (pa_cons (pv 2) pa_nil)))) (pgt_K K (n := 2) rfl rfl (pgs_cons (pg_name (i := 3) sc_share_of.nd rfl (Or.inl rfl)) (pgs_cons (pg_name (i := 4) sc_share_of.nd rfl (Or.inl rfl)) pgs_nil))))
      (pss_one (ps_ret (pe_callS (ok_tally T) (hr.mono (by decide)) (by rfl) T.g_tally T.F_tally.kp T.b_tally (fun σ => passAt (takes_of rfl rfl rfl rfl) σ) (pa_cons (pv 3) (pa_cons (pv 4) pa_nil))))))), ?_⟩
  have ret := ho _ ⟨n, ts, j, rfl, rfl⟩
  have tb := nk.inb
  have l2 := nk.len
  have n7 := nk.le
  have n0 := nk.pos
  have b2 := getD_inb tb jl
  obtain ⟨u, hu⟩ : ∃ u, u = ts.getD j (0, 0) := ⟨_, rfl⟩
  have tj : ∀ env, env[1]? = some (.val false (.list (ts.map tieD))) → env[2]? = some (.val false (natD j)) → JD K (tOp (rIx K) (tVar 1) (tVar 2)) env false (tieD u) := fun env h1 h2 =>
    (jd_ixE (enc := tieD) j (0, 0) (js_var h1) (jv_var h2 rfl) rfl jl).eqD (by rw [← hu])
  refine run_if (b := decide ((u.1 : Int) = (u.2 : Int))) (jt_test (jv_eqI ((jd_ixU (d := natD u.1) (tj _ rfl rfl).dU jv_c rfl).toV rfl) ((jd_ixU (d := natD u.2) (tj _ rfl rfl).dU jv_c rfl).toV rfl))) (fun q => ?_) (fun q => ?_)
  · have q' := of_decide_eq_true q
    rw [cnt_loop tb n0 jl (by rw [← hu]; omega)] at ret
    exact run_retSeq (run_retV (v := .int 0) (n := true) (d := natD 0) jv_c rfl ret)
  · have q' := of_decide_eq_false q
    have ne : (ts.getD j (0, 0)).1 ≠ (ts.getD j (0, 0)).2 := by rw [← hu]; omega
    rw [cnt_share tb jl ne] at ret
    have nk2 : NetOk (n - 1) (contract (min (ts.getD j (0, 0)).1 (ts.getD j (0, 0)).2) (max (ts.getD j (0, 0)).1 (ts.getD j (0, 0)).2) (ts.eraseIdx j)) :=
      ⟨by omega, by omega, by unfold contract; rw [List.length_map]; exact Nat.le_trans (List.length_eraseIdx_le ..) l2, contract_inb (by omega) (by omega) (wo_inb tb)⟩
    refine run_next (run_tg (n := true) (d := .tuple [natD (n - 1), .list ((contract (min (ts.getD j (0, 0)).1 (ts.getD j (0, 0)).2) (max (ts.getD j (0, 0)).1 (ts.getD j (0, 0)).2) (ts.eraseIdx j)).map tieD)]) (jd_callS (jf_cons (jd_var rfl) (jf_cons (jd_var rfl) (jf_cons (jd_var rfl) jf_nil))) ⟨_, _, _, rfl, rfl, pln_ties ts, rfl⟩ fun out po => .inl ?_) tg_two ?_)
    · have := postTie3_ok nk jl po
      unfold outTog at this
      rw [if_neg ne] at this
      exact this
    · exact run_ret (n := true) (jd_callS (jf_cons (jd_var rfl).low (jf_cons (jd_var rfl).low jf_nil)) (preNet_of _ _) fun out po => .inl (postOr_net nk2 po)) ret

end
end Tr

namespace Tr
open PySem L2 DL TT
local macro_rules | `(tactic| walk_at "jv") => `(tactic| first
  | exact jv_c
  | exact jv_var rfl rfl
  | ((with_reducible refine' jv_add ?a ?b); (case a => walk_at "jv"); (case b => walk_at "jv"))
  | ((with_reducible refine' jv_sub ?a ?b); (case a => walk_at "jv"); (case b => walk_at "jv"))
  | ((with_reducible refine' jv_lt ?a ?b); (case a => walk_at "jv"); (case b => walk_at "jv"))
  | ((with_reducible refine' jv_le ?a ?b); (case a => walk_at "jv"); (case b => walk_at "jv"))
  | ((with_reducible refine' jv_gt ?a ?b); (case a => walk_at "jv"); (case b => walk_at "jv"))
  | ((with_reducible refine' jv_ge ?a ?b); (case a => walk_at "jv"); (case b => walk_at "jv"))
  | ((with_reducible refine' jv_eqI ?a ?b); (case a => walk_at "jv"); (case b => walk_at "jv"))
  | ((with_reducible refine' jv_neI ?a ?b); (case a => walk_at "jv"); (case b => walk_at "jv"))
  | ((with_reducible refine' jv_chain ?a ?b ?c); (case a => walk_at "jv"); (case b => walk_at "jv"); (case c => walk_at "jv"))
  | ((with_reducible refine' jv_not ?a); (case a => walk_at "jv"))
  | ((with_reducible refine' jv_len ?a); (case a => walk_at "js"))
  | ((with_reducible refine' jv_lenU ?a); (case a => walk_at "ju"))
  | ((with_reducible refine' jv_min2 ?a ?b); (case a => walk_at "jv"); (case b => walk_at "jv"))
  | ((with_reducible refine' jv_max2 ?a ?b); (case a => walk_at "jv"); (case b => walk_at "jv"))
  | assumption)
local macro_rules | `(tactic| walk_at "js") => `(tactic| first
  | exact js_var rfl
  | exact js_own rfl
  | exact Jd.lowS (js_var rfl)
  | assumption
  | exact Jd.nS (by assumption))
local macro_rules | `(tactic| walk_at "ju") => `(tactic| first
  | exact ju_var rfl
  | assumption)
local macro_rules | `(tactic| walk_at "jd") => `(tactic| first
  | exact jd_var rfl
  | exact Jd.low (jd_var rfl)
  | exact Jd.low (by assumption)
  | assumption
  | ((refine' Jd.int (Jd.eqV ?a ?b)); (case a => walk_at "jv"); (case b => first | rfl | (congr 1; omega)))
  | ((refine' Jd.bool ?a); (case a => walk_at "jv")))
local macro_rules | `(tactic| walk_at "jf") => `(tactic| first
  | exact jf_nil
  | ((with_reducible refine' jf_cons ?a ?b); (case a => walk_at "jd"); (case b => walk_at "jf")))
local macro_rules | `(tactic| walk_at "less") => `(tactic| first
  | exact LessI.nil
  | (refine LessI.keep ?_; walk_at "less")
  | (refine LessI.drop ?_; walk_at "less"))
local macro_rules | `(tactic| walk_at "loop") => `(tactic| (refine' run_loopW ?x ?y; (case x => exact rfl); (case y => walk_at "less")))

section
variable {P : Program} {w : World} {K : PySem.W.Frag} {mg : Str → Option Value} {base : Heap}

def outStanding (n : Nat) (ts : List Tie) (out : Out) : Prop := out = .new (((List.range ts.length).map (cnt n ts)).map natD)
theorem ok_standing (T : Tx K mg) : FnOk P w K mg base (L2.CX P w) 7 T.a_standing T.d_standing ["many", "ties"] (spD K T.cl [false, false] true preNet (postOr outStanding)) := by
  refine fnD T.F_standing sc_standing rfl fun cdv A outer s E M B H Q ds hr hp wf ho => ?_
  obtain ⟨m, t, rfl, hm, ht⟩ := hp
  refine ⟨_, (pss_cons (ps_expr (pe_callS (ok_need_net T) (hr.mono (by decide)) (by rfl) T.g_need_net T.F_need_net.kp T.b_need_net (fun σ => passAt (takes_of rfl rfl rfl rfl) σ) (pa_cons (pv 0) (pa_cons (pv 1) pa_nil))))
      (pss_one (ps_ret (pe_lc (own := [("tie", 2)]) rfl sc_standing.nd (pi_range1 (by rfl) T.n_range (pa_cons (pe_callB (len_K K rfl) (by rfl) T.n_len (by decide +kernel) (pa_cons (pv 1) pa_nil)) pa_nil)) (blkOk_by (own := [("tie", 2)]) (N := ["many", "ties", "tie"]) (sc := defScope s_standing) (by decide +kernel)) (fun _ _ _ _ _ => (pg_name (i := 2) sc_standing.nd rfl (Or.inl rfl))) (fun _ _ _ _ _ => pts_nil) (fun _ _ _ _ _ => (pe_call (ok_share_of T) (hr.mono (by decide)) (by rfl) T.g_share_of T.F_share_of.kp T.b_share_of .nil passL (pa_cons (pv 0) (pa_cons (pv 1) (pa_cons (pv 2) pa_nil))))))))), ?_⟩
  cases hn : isNet m t with
  | false =>
    exact run_dropE (er_call (by walk_at "jf") ⟨m, t, rfl, hm, ht⟩ fun out po => need_bad hn po) fun H' s => ho _ ⟨m, t, rfl, .inl ⟨hn, rfl⟩⟩ H' s
  | true =>
    obtain ⟨n, ts, rfl, rfl, nk⟩ := isNet_inv hn
    have l1 := nk.le
    have l2 := nk.len
    refine run_drop (jd_callS (d := .none) (by walk_at "jf") ⟨_, _, rfl, hm, ht⟩ fun out po => .inl (need_ok nk po)) ?_
    have shc : ∀ {env : List Sl} (p : Nat), p < ts.length → env[0]? = some (.val false (natD n)) → env[1]? = some (.val false (.list (ts.map tieD))) → env[2]? = some (.val true (natD p)) → JD K (tCall (spD K T.cl [false, false, false] true preShare postShare) [] E0 (tCons (tVar 0) (tCons (tVar 1) (tCons (tVar 2) tNil)))) env true (natD (cnt n ts p)) := fun {env} p hp h0 h1 h2 =>
      jd_call (jf_cons (jd_var h0) (jf_cons (jd_var h1) (jf_cons (jd_nat h2) jf_nil))) ⟨n, ts, p, rfl, nk, hp⟩ fun out ⟨n', ts', p', e, po⟩ => by
        obtain ⟨e1, e2⟩ := one_cons e
        obtain ⟨e2, e3⟩ := one_cons e2
        rw [natD_inj e1, ties_inj (PyData.list.inj e2), natD_inj (one_cons e3).1]
        exact .inl po
    refine run_retN ((jn_mapR (k := (ts.length : Int)) (fun p => natD (cnt n ts p)) ((jv_len (js_var rfl)).eqV (by rw [List.length_map])) (by omega) (by omega) fun p hp => ⟨_, tg_name, shc p (by omega) rfl rfl rfl⟩).eqN ?_) (ho _ ⟨_, _, rfl, .inr ⟨n, ts, rfl, rfl, nk, rfl⟩⟩)
    rw [Int.toNat_natCast, List.map_map]
    rfl

end
end Tr

namespace Tr
open PySem L2 DL TT
local macro_rules | `(tactic| walk_at "jv") => `(tactic| first
  | exact jv_c
  | exact jv_var rfl rfl
  | ((with_reducible refine' jv_add ?a ?b); (case a => walk_at "jv"); (case b => walk_at "jv"))
  | ((with_reducible refine' jv_sub ?a ?b); (case a => walk_at "jv"); (case b => walk_at "jv"))
  | ((with_reducible refine' jv_lt ?a ?b); (case a => walk_at "jv"); (case b => walk_at "jv"))
  | ((with_reducible refine' jv_le ?a ?b); (case a => walk_at "jv"); (case b => walk_at "jv"))
  | ((with_reducible refine' jv_gt ?a ?b); (case a => walk_at "jv"); (case b => walk_at "jv"))
  | ((with_reducible refine' jv_ge ?a ?b); (case a => walk_at "jv"); (case b => walk_at "jv"))
  | ((with_reducible refine' jv_eqI ?a ?b); (case a => walk_at "jv"); (case b => walk_at "jv"))
  | ((with_reducible refine' jv_neI ?a ?b); (case a => walk_at "jv"); (case b => walk_at "jv"))
  | ((with_reducible refine' jv_chain ?a ?b ?c); (case a => walk_at "jv"); (case b => walk_at "jv"); (case c => walk_at "jv"))
  | ((with_reducible refine' jv_not ?a); (case a => walk_at "jv"))
  | ((with_reducible refine' jv_len ?a); (case a => walk_at "js"))
  | ((with_reducible refine' jv_lenU ?a); (case a => walk_at "ju"))
  | ((with_reducible refine' jv_min2 ?a ?b); (case a => walk_at "jv"); (case b => walk_at "jv"))
  | ((with_reducible refine' jv_max2 ?a ?b); (case a => walk_at "jv"); (case b => walk_at "jv"))
  | assumption)
local macro_rules | `(tactic| walk_at "js") => `(tactic| first
  | exact js_var rfl
  | exact js_own rfl
  | exact Jd.lowS (js_var rfl)
  | assumption
  | exact Jd.nS (by assumption))
local macro_rules | `(tactic| walk_at "ju") => `(tactic| first
  | exact ju_var rfl
  | assumption)
local macro_rules | `(tactic| walk_at "jd") => `(tactic| first
  | exact jd_var rfl
  | exact Jd.low (jd_var rfl)
  | exact Jd.low (by assumption)
  | assumption
  | ((refine' Jd.int (Jd.eqV ?a ?b)); (case a => walk_at "jv"); (case b => first | rfl | (congr 1; omega)))
  | ((refine' Jd.bool ?a); (case a => walk_at "jv")))
local macro_rules | `(tactic| walk_at "jf") => `(tactic| first
  | exact jf_nil
  | ((with_reducible refine' jf_cons ?a ?b); (case a => walk_at "jd"); (case b => walk_at "jf")))
local macro_rules | `(tactic| walk_at "less") => `(tactic| first
  | exact LessI.nil
  | (refine LessI.keep ?_; walk_at "less")
  | (refine LessI.drop ?_; walk_at "less"))
local macro_rules | `(tactic| walk_at "loop") => `(tactic| (refine' run_loopW ?x ?y; (case x => exact rfl); (case y => walk_at "less")))

section
variable {P : Program} {w : World} {K : PySem.W.Frag} {mg : Str → Option Value} {base : Heap}

-- leans on ok_is_hanging
def preNh (ds : List D) : Prop := ∃ m t d, ds = [m, t, d] ∧ isNet m t = false ∧ pln m = true ∧ pln t = true ∧ pln d = true ∧ (∀ xs, d = .list xs → xs.length ≤ 1000)
def postNo (_ : List D) (out : Out) : Prop := out = .err .net
theorem ok_need_hanging (T : Tx K mg) : FnOk P w K mg base (L2.CX P w) 7 T.a_need_hanging T.d_need_hanging ["many", "ties", "some"] (spD K T.cl [false, false, false] true preNh postNo) := by
  refine fnD T.F_need_hanging sc_need_hanging rfl fun cdv A outer s E M B H Q ds hr hp wf ho => ?_
  obtain ⟨m, t, d, rfl, hn, hm, ht, hd, hl⟩ := hp
  refine ⟨_, (pss_one (ps_if (pt_not (pt_val (pe_callS (ok_is_hanging T) (hr.mono (by decide)) (by rfl) T.g_is_hanging T.F_is_hanging.kp T.b_is_hanging (fun σ => passAt (takes_of rfl rfl rfl rfl) σ) (pa_cons (pv 0) (pa_cons (pv 1) (pa_cons (pv 2) pa_nil))))))
      (pss_one (ps_raise rfl (takes_of rfl rfl rfl rfl) (pmk_own PySem.F.excBase_ValueError T.x_BadHanging T.gC_BadHanging T.kC_BadHanging (raises_own T.bC_BadHanging T.tC_BadHanging) (by rfl)))) pss_nil)), ?_⟩
  refine run_one (run_ifE (c := .ref (T.cl .net)) (fun L σ H Q g q => ?_) fun H' s => ho _ rfl H' s)
  exact er_call (jf_cons (jd_var rfl) (jf_cons (jd_var rfl) (jf_cons (jd_var rfl) jf_nil))) ⟨m, t, d, rfl, hm, ht, hd, hl⟩ (fun out po => postArg_bad hn po) L σ H _ g q

end
end Tr

namespace Tr
open PySem L2 DL TT
local macro_rules | `(tactic| walk_at "jv") => `(tactic| first
  | exact jv_c
  | exact jv_var rfl rfl
  | ((with_reducible refine' jv_add ?a ?b); (case a => walk_at "jv"); (case b => walk_at "jv"))
  | ((with_reducible refine' jv_sub ?a ?b); (case a => walk_at "jv"); (case b => walk_at "jv"))
  | ((with_reducible refine' jv_lt ?a ?b); (case a => walk_at "jv"); (case b => walk_at "jv"))
  | ((with_reducible refine' jv_le ?a ?b); (case a => walk_at "jv"); (case b => walk_at "jv"))
  | ((with_reducible refine' jv_gt ?a ?b); (case a => walk_at "jv"); (case b => walk_at "jv"))
  | ((with_reducible refine' jv_ge ?a ?b); (case a => walk_at "jv"); (case b => walk_at "jv"))
  | ((with_reducible refine' jv_eqI ?a ?b); (case a => walk_at "jv"); (case b => walk_at "jv"))
  | ((with_reducible refine' jv_neI ?a ?b); (case a => walk_at "jv"); (case b => walk_at "jv"))
  | ((with_reducible refine' jv_chain ?a ?b ?c); (case a => walk_at "jv"); (case b => walk_at "jv"); (case c => walk_at "jv"))
  | ((with_reducible refine' jv_not ?a); (case a => walk_at "jv"))
  | ((with_reducible refine' jv_len ?a); (case a => walk_at "js"))
  | ((with_reducible refine' jv_lenU ?a); (case a => walk_at "ju"))
  | ((with_reducible refine' jv_min2 ?a ?b); (case a => walk_at "jv"); (case b => walk_at "jv"))
  | ((with_reducible refine' jv_max2 ?a ?b); (case a => walk_at "jv"); (case b => walk_at "jv"))
  | assumption)
local macro_rules | `(tactic| walk_at "js") => `(tactic| first
  | exact js_var rfl
  | exact js_own rfl
  | exact Jd.lowS (js_var rfl)
  | assumption
  | exact Jd.nS (by assumption))
local macro_rules | `(tactic| walk_at "ju") => `(tactic| first
  | exact ju_var rfl
  | assumption)
local macro_rules | `(tactic| walk_at "jd") => `(tactic| first
  | exact jd_var rfl
  | exact Jd.low (jd_var rfl)
  | exact Jd.low (by assumption)
  | assumption
  | ((refine' Jd.int (Jd.eqV ?a ?b)); (case a => walk_at "jv"); (case b => first | rfl | (congr 1; omega)))
  | ((refine' Jd.bool ?a); (case a => walk_at "jv")))
local macro_rules | `(tactic| walk_at "jf") => `(tactic| first
  | exact jf_nil
  | ((with_reducible refine' jf_cons ?a ?b); (case a => walk_at "jd"); (case b => walk_at "jf")))
local macro_rules | `(tactic| walk_at "less") => `(tactic| first
  | exact LessI.nil
  | (refine LessI.keep ?_; walk_at "less")
  | (refine LessI.drop ?_; walk_at "less"))
local macro_rules | `(tactic| walk_at "loop") => `(tactic| (refine' run_loopW ?x ?y; (case x => exact rfl); (case y => walk_at "less")))

section
variable {P : Program} {w : World} {K : PySem.W.Frag} {mg : Str → Option Value} {base : Heap}

-- leans on ok_is_hanging
def preNr (ds : List D) : Prop := ∃ (n : Nat) (ts : List Tie) (N G : List Nat), ds = [natD n, .list (ts.map tieD), numsD N, numsD G] ∧ NetOk n ts ∧ N ∈ allH n ts ∧ G ∈ allH n ts ∧ 0 < (lacks G N).length
def postNr (ds : List D) (out : Out) : Prop := ∃ (n : Nat) (ts : List Tie) (N G R : List Nat), ds = [natD n, .list (ts.map tieD), numsD N, numsD G] ∧ R ∈ allH n ts ∧ (lacks R N).length = 1 ∧ (lacks G R).length + 1 = (lacks G N).length ∧ out = .val (numsD R)
theorem ok_nearer (T : Tx K mg) : FnOk P w K mg base (L2.CX P w) 7 T.a_nearer T.d_nearer ["many", "ties", "now", "goal"] (spD K T.cl [false, false, false, false] true preNr postNr) := by
  refine fnD T.F_nearer sc_nearer rfl fun cdv A outer s E M B H Q ds hr hp wf ho => ?_
  obtain ⟨n, ts, N, G, rfl, nk, hN, hG, lp⟩ := hp
  refine ⟨_, (pss_cons (ps_set (i := 4) sc_nearer.nd rfl (Or.inl rfl) (pe_ix (ix_K K rfl) (pe_lc (own := [("tie", 5)]) rfl sc_nearer.nd (list_pi K rfl (pv 3)) (blkOk_by (own := [("tie", 5)]) (N := ["many", "ties", "now", "goal", "comes", "tie", "goes", "some"]) (sc := defScope s_nearer) (by decide +kernel)) (fun _ _ _ _ _ => (pg_name (i := 5) sc_nearer.nd rfl (Or.inl rfl))) (fun _ _ _ _ _ => (pts_one (pt_cmpR (op_ninU K rfl hr) (pv 5) (pv 2) (by rfl)))) (fun _ _ _ _ _ => (pv 5))) pe_int (fun _ _ => rfl)))
      (pss_cons (PS.nox (ps_for PassesOwn.never rfl (list_pi K rfl (pv 2)) (pg_name (i := 6) sc_nearer.nd rfl (Or.inr rfl))
      (pss_cons (ps_set (i := 7) sc_nearer.nd rfl (Or.inl rfl) (pe_callB (sorted_K K rfl) (by rfl) T.n_sorted (by decide +kernel) (pa_cons (pe_op op_addD (pe_lc (own := [("tie", 5)]) rfl sc_nearer.nd (list_pi K rfl (pv 2)) (blkOk_by (own := [("tie", 5)]) (N := ["many", "ties", "now", "goal", "comes", "tie", "goes", "some"]) (sc := defScope s_nearer) (by decide +kernel)) (fun _ _ _ _ _ => (pg_name (i := 5) sc_nearer.nd rfl (Or.inl rfl))) (fun _ _ _ _ _ => (pts_one (pt_cmpR (op_neK K rfl hr.units) (pv 5) (pv 6) (nomark _)))) (fun _ _ _ _ _ => (pv 5))) (pe_lst (pa_cons (pv 4) pa_nil))) pa_nil)))
      (pss_one (ps_if (PW.pt (pw_and (pt_cmpR (op_ninU K rfl hr) (pv 6) (pv 3) (by rfl)) (pw_and1 (pt_val (pe_call (ok_is_hanging T) (hr.mono (by decide)) (by rfl) T.g_is_hanging T.F_is_hanging.kp T.b_is_hanging .nil passL (pa_cons (pv 0) (pa_cons (pv 1) (pa_cons (pv 7) pa_nil))))))))
      (pss_one (ps_ret (pv 7))) pss_nil)))))
      (pss_one (ps_ret (pv 2))))), ?_⟩
  have n0 := nk.pos
  have n7 := nk.le
  have tb := nk.inb
  have gN := hg_of hN
  have gG := hg_of hG
  have Nl := gN.len
  have Gl := gG.len
  have comp : JN K (tLc (iList K (tVar 3)) (gName 5) (tTest (tOp (rNinA K) (tVar 5) (tVar 2))) (tVar 5) [5]) (argEnv [false, false, false, false] [natD n, .list (ts.map tieD), numsD N, numsD G] 8) true ((lacks G N).map natD) := by
    refine jn_lcL (enc := natD) (n0 := false) G (fun i => decide (i ∉ N)) natD (js_var rfl) (by omega) fun x hx => ⟨_, tg_name, ?_, fun _ => jd_nat rfl⟩
    exact (jt_test (jv_ninL (b := decide (x ∈ N)) (d := natD x) (es := N.map natD) (jd_eE (jd_var rfl) (okD_nat (k := 0) x)) (jd_eE (jd_var rfl) (okD_nums (k := 0) N)) (okD_nat (k := 0) x) (okD_nums (k := 0) N) (by rw [decide_eq_true_iff]; exact mem_natD.symm))).to decide_not.symm
  obtain ⟨c, hc⟩ : ∃ c, c = (lacks G N).getD 0 0 := ⟨_, rfl⟩
  have cm : c ∈ lacks G N := by
    rw [hc, List.getD_eq_getElem?_getD, List.getElem?_eq_getElem lp]
    exact List.getElem_mem _
  obtain ⟨cG, cN'⟩ := List.mem_filter.mp cm
  have cN := of_decide_eq_true cN'
  refine run_set (n := true) (d := natD c) ((jd_ixE (enc := natD) 0 0 comp.nS jv_c rfl lp).eqD (by rw [hc])) ?_
  refine run_forL (enc := natD) (n0 := false) N (fun k env => env = [.val false (natD n), .val false (.list (ts.map tieD)), .val false (numsD N), .val false (numsD G), .val true (natD c), .un, .un, .un] ∧ ∀ i g, i < k → N[i]? = some g → ¬ (g ∉ G ∧ swapS N g c ∈ allH n ts)) (jd_var rfl) ⟨rfl, fun i g hi => absurd hi (Nat.not_lt_zero i)⟩ (fun hb' k g env1 hx ⟨e1, past⟩ => ?_) (fun env1 ⟨e1, past⟩ => ?_)
  · subst e1
    refine ⟨_, _, tg_name, ?_⟩
    have gN' := List.mem_of_getElem? hx
    have fl : (N.filter fun i => decide (i ≠ g)).length ≤ N.length := List.length_filter_le ..
    refine run_set (n := true) (d := numsD (swapS N g c)) (((jn_sorted (m := true) (n := true) (ns := ((N.filter fun i => decide (i ≠ g)) ++ [c]).map fun x => ((x : Nat) : Int)) (ms := (swapS N g c).map fun x => ((x : Nat) : Int)) (((jn_cat (n := true) (ds := (N.filter fun i => decide (i ≠ g)).map natD) (es := [natD c]) (jn_lcL (enc := natD) (n0 := false) N (fun i => decide (i ≠ g)) natD (js_var rfl) (by omega) fun x hx => ⟨_, tg_name, ?_, fun _ => jd_nat rfl⟩).nS (jn_lst (ja_cons (jd_nat rfl) ja_nil) (by simp)).nS ?_).nS).eqS ?_) ?_ ((srtN_perm _).map _) ?_).eqN (by rw [List.map_map]; rfl)).nD) ?_
    · refine (jt_test (jv_neI (jv_var (d := natD x) rfl rfl) (jv_var (d := natD g) rfl rfl))).to ?_
      rw [Bool.eq_iff_iff]
      simp
      omega
    · rw [List.length_map]
      show (N.filter fun i => decide (i ≠ g)).length + 1 ≤ 100000
      omega
    · rw [List.map_map, List.map_append]
      rfl
    · rw [List.length_map, List.length_append]
      show (N.filter fun i => decide (i ≠ g)).length + 1 < 64
      omega
    · rw [List.pairwise_map]
      exact (srtN_le _).imp fun h => Int.ofNat_le.mpr h
    have sl : (swapS N g c).length ≤ 1000 := by
      unfold swapS
      rw [(srtN_perm _).length_eq, List.length_append]
      show (N.filter fun i => decide (i ≠ g)).length + 1 ≤ 1000
      omega
    refine run_one (run_if (b := !decide (g ∈ G) && isHangD n ts (numsD (swapS N g c))) (jt_and (jt_test (jv_ninL (b := decide (g ∈ G)) (d := natD g) (es := G.map natD) (jd_eE (jd_var rfl) (okD_nat (k := 0) g)) (jd_eE (jd_var rfl) (okD_nums (k := 0) G)) (okD_nat (k := 0) g) (okD_nums (k := 0) G) (by rw [decide_eq_true_iff]; exact mem_natD.symm))) fun _ => jt_B (jv_call (d := .bool (isHangD n ts (numsD (swapS N g c)))) (jf_cons (jd_var rfl) (jf_cons (jd_var rfl) (jf_cons (jd_var rfl).low jf_nil))) ⟨_, _, _, rfl, rfl, pln_ties ts, pln_nums _, fun xs e => by rw [← PyData.list.inj e, List.length_map]; exact sl⟩ (fun out po => postArg_net nk po) rfl)) (fun q => ?_) (fun q => run_next ?_))
    · obtain ⟨q1, q2⟩ := Bool.and_eq_true_iff.mp q
      have gG' : g ∉ G := by simpa using q1
      have hR := isHangD_nums.mp q2
      exact run_retSeq (run_ret (n := true) (d := numsD (swapS N g c)) (jd_var rfl) (ho _ ⟨n, ts, N, G, _, rfl, hR, swapS_new gN.nd cN, swapS_lacks gN.nd cG cN gG' gG.nd, rfl⟩))
    · refine run_loopW (env' := [.val false (natD n), .val false (.list (ts.map tieD)), .val false (numsD N), .val false (numsD G), .val true (natD c), .un, .un, .un]) ⟨rfl, fun i g' hi hg' => ?_⟩ (by walk_at "less")
      by_cases z : i = k
      · rw [z, hx] at hg'
        rw [← Option.some.inj hg']
        intro w
        rw [isHangD_nums.mpr w.2, Bool.and_true] at q
        exact w.1 (by simpa using q)
      · exact past i g' (by omega) hg'
  · exfalso
    obtain ⟨g, g1, g2, g3⟩ := exchange tb n0 gN gG cG cN
    obtain ⟨i, hi, e⟩ := List.getElem_of_mem g1
    exact past i g hi (by rw [List.getElem?_eq_getElem hi, e]) ⟨g2, (swapS_iff gN.nd cN).mpr g3⟩
theorem nr_inv {n : Nat} {ts : List Tie} {N G : List Nat} {out : Out} (p : postNr [natD n, .list (ts.map tieD), numsD N, numsD G] out) : ∃ R, R ∈ allH n ts ∧ (lacks R N).length = 1 ∧ (lacks G R).length + 1 = (lacks G N).length ∧ out = .val (numsD R) := by
  obtain ⟨n', ts', N', G', R, e, po⟩ := p
  obtain ⟨e1, e2⟩ := one_cons e
  obtain ⟨e3, e4⟩ := one_cons e2
  obtain ⟨e5, e6⟩ := one_cons e4
  rw [natD_inj e1, ties_inj (PyData.list.inj e3), nums_inj e5, nums_inj (one_cons e6).1]
  exact ⟨R, po⟩

end
end Tr

namespace Tr
open PySem L2 DL TT
local macro_rules | `(tactic| walk_at "jv") => `(tactic| first
  | exact jv_c
  | exact jv_var rfl rfl
  | ((with_reducible refine' jv_add ?a ?b); (case a => walk_at "jv"); (case b => walk_at "jv"))
  | ((with_reducible refine' jv_sub ?a ?b); (case a => walk_at "jv"); (case b => walk_at "jv"))
  | ((with_reducible refine' jv_lt ?a ?b); (case a => walk_at "jv"); (case b => walk_at "jv"))
  | ((with_reducible refine' jv_le ?a ?b); (case a => walk_at "jv"); (case b => walk_at "jv"))
  | ((with_reducible refine' jv_gt ?a ?b); (case a => walk_at "jv"); (case b => walk_at "jv"))
  | ((with_reducible refine' jv_ge ?a ?b); (case a => walk_at "jv"); (case b => walk_at "jv"))
  | ((with_reducible refine' jv_eqI ?a ?b); (case a => walk_at "jv"); (case b => walk_at "jv"))
  | ((with_reducible refine' jv_neI ?a ?b); (case a => walk_at "jv"); (case b => walk_at "jv"))
  | ((with_reducible refine' jv_chain ?a ?b ?c); (case a => walk_at "jv"); (case b => walk_at "jv"); (case c => walk_at "jv"))
  | ((with_reducible refine' jv_not ?a); (case a => walk_at "jv"))
  | ((with_reducible refine' jv_len ?a); (case a => walk_at "js"))
  | ((with_reducible refine' jv_lenU ?a); (case a => walk_at "ju"))
  | ((with_reducible refine' jv_min2 ?a ?b); (case a => walk_at "jv"); (case b => walk_at "jv"))
  | ((with_reducible refine' jv_max2 ?a ?b); (case a => walk_at "jv"); (case b => walk_at "jv"))
  | assumption)
local macro_rules | `(tactic| walk_at "js") => `(tactic| first
  | exact js_var rfl
  | exact js_own rfl
  | exact Jd.lowS (js_var rfl)
  | assumption
  | exact Jd.nS (by assumption))
local macro_rules | `(tactic| walk_at "ju") => `(tactic| first
  | exact ju_var rfl
  | assumption)
local macro_rules | `(tactic| walk_at "jd") => `(tactic| first
  | exact jd_var rfl
  | exact Jd.low (jd_var rfl)
  | exact Jd.low (by assumption)
  | assumption
  | ((refine' Jd.int (Jd.eqV ?a ?b)); (case a => walk_at "jv"); (case b => first | rfl | (congr 1; omega)))
  | ((refine' Jd.bool ?a); (case a => walk_at "jv")))
local macro_rules | `(tactic| walk_at "jf") => `(tactic| first
  | exact jf_nil
  | ((with_reducible refine' jf_cons ?a ?b); (case a => walk_at "jd"); (case b => walk_at "jf")))
local macro_rules | `(tactic| walk_at "less") => `(tactic| first
  | exact LessI.nil
  | (refine LessI.keep ?_; walk_at "less")
  | (refine LessI.drop ?_; walk_at "less"))
local macro_rules | `(tactic| walk_at "loop") => `(tactic| (refine' run_loopW ?x ?y; (case x => exact rfl); (case y => walk_at "less")))

section
variable {P : Program} {w : World} {K : PySem.W.Frag} {mg : Str → Option Value} {base : Heap}

-- leans on ok_need_hanging
def preEx (ds : List D) : Prop := ∃ m t a b, ds = [m, t, a, b] ∧ isNet m t = false ∧ pln m = true ∧ pln t = true ∧ pln a = true ∧ (∀ xs, a = .list xs → xs.length ≤ 1000)
theorem ok_exchanges (T : Tx K mg) : FnOk P w K mg base (L2.CX P w) 8 T.a_exchanges T.d_exchanges ["many", "ties", "one", "other"] (spD K T.cl [false, false, false, false] true preEx postNo) := by
  refine fnD T.F_exchanges sc_exchanges rfl fun cdv A outer s E M B H Q ds hr hp wf ho => ?_
  obtain ⟨m, t, a, b, rfl, hn, hm, ht, ha, hl⟩ := hp
  refine ⟨_, (pss_cons (ps_expr (pe_callS (ok_need_hanging T) (hr.mono (by decide)) (by rfl) T.g_need_hanging T.F_need_hanging.kp T.b_need_hanging (fun σ => passAt (takes_of rfl rfl rfl rfl) σ) (pa_cons (pv 0) (pa_cons (pv 1) (pa_cons (pv 2) pa_nil)))))
      (pss_cons (ps_expr (pe_callS (ok_need_hanging T) (hr.mono (by decide)) (by rfl) T.g_need_hanging T.F_need_hanging.kp T.b_need_hanging (fun σ => passAt (takes_of rfl rfl rfl rfl) σ) (pa_cons (pv 0) (pa_cons (pv 1) (pa_cons (pv 3) pa_nil)))))
      (pss_cons (ps_set (i := 4) sc_exchanges.nd rfl (Or.inl rfl) (pe_callTy (list_K K rfl) (by rfl) T.n_list (by decide +kernel) (pa_cons (pv 2) pa_nil)))
      (pss_cons (ps_set (i := 5) sc_exchanges.nd rfl (Or.inl rfl) (pe_lst (pa_cons (pv 4) pa_nil)))
      (pss_cons (PS.nox (ps_for PassesOwn.never rfl (pi_range1 (by rfl) T.n_range (pa_cons (pe_callB (len_K K rfl) (by rfl) T.n_len (by decide +kernel) (pa_cons (pe_lc (own := [("tie", 7)]) rfl sc_exchanges.nd (list_pi K rfl (pv 3)) (blkOk_by (own := [("tie", 7)]) (N := ["many", "ties", "one", "other", "now", "found", "turn", "tie"]) (sc := defScope s_exchanges) (by decide +kernel)) (fun _ _ _ _ _ => (pg_name (i := 7) sc_exchanges.nd rfl (Or.inl rfl))) (fun _ _ _ _ _ => (pts_one (pt_cmpR (op_ninU K rfl hr) (pv 7) (pv 2) (by rfl)))) (fun _ _ _ _ _ => (pv 7))) pa_nil)) pa_nil)) (pg_name (i := 6) sc_exchanges.nd rfl (Or.inl rfl))
      (pss_cons (ps_set (i := 4) sc_exchanges.nd rfl (Or.inl rfl) (pe_call (ok_nearer T) (hr.mono (by decide)) (by rfl) T.g_nearer T.F_nearer.kp T.b_nearer .nil passL (pa_cons (pv 0) (pa_cons (pv 1) (pa_cons (pv 4) (pa_cons (pv 3) pa_nil))))))
      (pss_one (ps_expr (bm_K K rfl PySem.F.plainAttrs_list PySem.F.slot_list_append PySem.F.type_list_append mt_append (pv 5) (pa_cons (pv 4) pa_nil)))))))
      (pss_one (ps_ret (pv 5)))))))), ?_⟩
  exact run_dropE (er_call (c := .net) (jf_cons (jd_var rfl) (jf_cons (jd_var rfl) (jf_cons (jd_var rfl) jf_nil))) ⟨m, t, a, rfl, hn, hm, ht, ha, hl⟩ fun out po => po) fun H' s => ho _ rfl H' s

end
end Tr

namespace Tr
open PySem L2 DL TT
local macro_rules | `(tactic| walk_at "jv") => `(tactic| first
  | exact jv_c
  | exact jv_var rfl rfl
  | ((with_reducible refine' jv_add ?a ?b); (case a => walk_at "jv"); (case b => walk_at "jv"))
  | ((with_reducible refine' jv_sub ?a ?b); (case a => walk_at "jv"); (case b => walk_at "jv"))
  | ((with_reducible refine' jv_lt ?a ?b); (case a => walk_at "jv"); (case b => walk_at "jv"))
  | ((with_reducible refine' jv_le ?a ?b); (case a => walk_at "jv"); (case b => walk_at "jv"))
  | ((with_reducible refine' jv_gt ?a ?b); (case a => walk_at "jv"); (case b => walk_at "jv"))
  | ((with_reducible refine' jv_ge ?a ?b); (case a => walk_at "jv"); (case b => walk_at "jv"))
  | ((with_reducible refine' jv_eqI ?a ?b); (case a => walk_at "jv"); (case b => walk_at "jv"))
  | ((with_reducible refine' jv_neI ?a ?b); (case a => walk_at "jv"); (case b => walk_at "jv"))
  | ((with_reducible refine' jv_chain ?a ?b ?c); (case a => walk_at "jv"); (case b => walk_at "jv"); (case c => walk_at "jv"))
  | ((with_reducible refine' jv_not ?a); (case a => walk_at "jv"))
  | ((with_reducible refine' jv_len ?a); (case a => walk_at "js"))
  | ((with_reducible refine' jv_lenU ?a); (case a => walk_at "ju"))
  | ((with_reducible refine' jv_min2 ?a ?b); (case a => walk_at "jv"); (case b => walk_at "jv"))
  | ((with_reducible refine' jv_max2 ?a ?b); (case a => walk_at "jv"); (case b => walk_at "jv"))
  | assumption)
local macro_rules | `(tactic| walk_at "js") => `(tactic| first
  | exact js_var rfl
  | exact js_own rfl
  | exact Jd.lowS (js_var rfl)
  | assumption
  | exact Jd.nS (by assumption))
local macro_rules | `(tactic| walk_at "ju") => `(tactic| first
  | exact ju_var rfl
  | assumption)
local macro_rules | `(tactic| walk_at "jd") => `(tactic| first
  | exact jd_var rfl
  | exact Jd.low (jd_var rfl)
  | exact Jd.low (by assumption)
  | assumption
  | ((refine' Jd.int (Jd.eqV ?a ?b)); (case a => walk_at "jv"); (case b => first | rfl | (congr 1; omega)))
  | ((refine' Jd.bool ?a); (case a => walk_at "jv")))
local macro_rules | `(tactic| walk_at "jf") => `(tactic| first
  | exact jf_nil
  | ((with_reducible refine' jf_cons ?a ?b); (case a => walk_at "jd"); (case b => walk_at "jf")))
local macro_rules | `(tactic| walk_at "less") => `(tactic| first
  | exact LessI.nil
  | (refine LessI.keep ?_; walk_at "less")
  | (refine LessI.drop ?_; walk_at "less"))
local macro_rules | `(tactic| walk_at "loop") => `(tactic| (refine' run_loopW ?x ?y; (case x => exact rfl); (case y => walk_at "less")))

section
variable {P : Program} {w : World} {K : PySem.W.Frag} {mg : Str → Option Value} {base : Heap}

-- leans on ok_exchanges
def preAsk (ds : List D) : Prop := ∃ (k : Nat) (m t a : D), ds = [natD k, m, t, a] ∧ isNet m t = false ∧ pln m = true ∧ pln t = true ∧ pln a = true ∧ (∀ xs, a = .list xs → xs.length ≤ 1000)
theorem allh_bad {m t : D} {k : Int} {out : Out} (h : isNet m t = false) (p : postAllh [m, t, .int k] out) : out = .err .net := by
  obtain ⟨m', t', k', e, p⟩ := p
  obtain ⟨e1, e0⟩ := one_cons e
  obtain ⟨e2, e3⟩ := one_cons e0
  subst e1 e2
  rcases p with ⟨_, b⟩ | ⟨n', ts', e1, e2, ok, _⟩
  · exact b
  · subst e1 e2
    rw [isNet_of ok] at h
    cases h
theorem ok__law_asked (T : Tx K mg) : FnOk P w K mg base (L2.CX P w) 9 T.a__law_asked T.d__law_asked ["_law_which", "_law_many", "_law_ties", "_law_odd"] (spD K T.cl [false, false, false, false] true preAsk postNo) := by
  refine fnD T.F__law_asked sc__law_asked rfl fun cdv A outer s E M B H Q ds hr hp wf ho => ?_
  obtain ⟨k, m, t, a, rfl, hn, hm, ht, ha, hl⟩ := hp
  refine ⟨_, (pss_cons (ps_if (pt_cmpR (op_eqK K rfl hr.units) (pv 0) pe_int (nomark _))
      (pss_one (ps_ret (pe_callS (ok_need_net T) (hr.mono (by decide)) (by rfl) T.g_need_net T.F_need_net.kp T.b_need_net (fun σ => passAt (takes_of rfl rfl rfl rfl) σ) (pa_cons (pv 1) (pa_cons (pv 2) pa_nil))))) pss_nil)
      (pss_cons (ps_if (pt_cmpR (op_eqK K rfl hr.units) (pv 0) pe_int (nomark _))
      (pss_one (ps_ret (pe_callS (ok_parts_of T) (hr.mono (by decide)) (by rfl) T.g_parts_of T.F_parts_of.kp T.b_parts_of (fun σ => passAt (takes_of rfl rfl rfl rfl) σ) (pa_cons (pv 1) (pa_cons (pv 2) pa_nil))))) pss_nil)
      (pss_cons (ps_if (pt_cmpR (op_eqK K rfl hr.units) (pv 0) pe_int (nomark _))
      (pss_one (ps_ret (pe_callS (ok_hangs T) (hr.mono (by decide)) (by rfl) T.g_hangs T.F_hangs.kp T.b_hangs (fun σ => passAt (takes_of rfl rfl rfl rfl) σ) (pa_cons (pv 1) (pa_cons (pv 2) pa_nil))))) pss_nil)
      (pss_cons (ps_if (pt_cmpR (op_eqK K rfl hr.units) (pv 0) pe_int (nomark _))
      (pss_one (ps_ret (pe_callS (ok_net_without T) (hr.mono (by decide)) (by rfl) T.g_net_without T.F_net_without.kp T.b_net_without (fun σ => passAt (takes_of rfl rfl rfl rfl) σ) (pa_cons (pv 1) (pa_cons (pv 2) (pa_cons (pv 3) pa_nil)))))) pss_nil)
      (pss_cons (ps_if (pt_cmpR (op_eqK K rfl hr.units) (pv 0) pe_int (nomark _))
      (pss_one (ps_ret (pe_callS (ok_net_together T) (hr.mono (by decide)) (by rfl) T.g_net_together T.F_net_together.kp T.b_net_together (fun σ => passAt (takes_of rfl rfl rfl rfl) σ) (pa_cons (pv 1) (pa_cons (pv 2) (pa_cons (pv 3) pa_nil)))))) pss_nil)
      (pss_cons (ps_if (pt_cmpR (op_eqK K rfl hr.units) (pv 0) pe_int (nomark _))
      (pss_one (ps_ret (pe_callS (ok_table_of T) (hr.mono (by decide)) (by rfl) T.g_table_of T.F_table_of.kp T.b_table_of (fun σ => passAt (takes_of rfl rfl rfl rfl) σ) (pa_cons (pv 1) (pa_cons (pv 2) pa_nil))))) pss_nil)
      (pss_cons (ps_if (pt_cmpR (op_eqK K rfl hr.units) (pv 0) pe_int (nomark _))
      (pss_one (ps_ret (pe_callS (ok_tally T) (hr.mono (by decide)) (by rfl) T.g_tally T.F_tally.kp T.b_tally (fun σ => passAt (takes_of rfl rfl rfl rfl) σ) (pa_cons (pv 1) (pa_cons (pv 2) pa_nil))))) pss_nil)
      (pss_cons (ps_if (pt_cmpR (op_eqK K rfl hr.units) (pv 0) pe_int (nomark _))
      (pss_one (ps_ret (pe_callS (ok_is_hanging T) (hr.mono (by decide)) (by rfl) T.g_is_hanging T.F_is_hanging.kp T.b_is_hanging (fun σ => passAt (takes_of rfl rfl rfl rfl) σ) (pa_cons (pv 1) (pa_cons (pv 2) (pa_cons (pv 3) pa_nil)))))) pss_nil)
      (pss_cons (ps_if (pt_cmpR (op_eqK K rfl hr.units) (pv 0) pe_int (nomark _))
      (pss_one (ps_ret (pe_callS (ok_all_hangings T) (hr.mono (by decide)) (by rfl) T.g_all_hangings T.F_all_hangings.kp T.b_all_hangings (fun σ => passAt (takes_of rfl rfl rfl rfl) σ) (pa_cons (pv 1) (pa_cons (pv 2) (pa_cons pe_int pa_nil)))))) pss_nil)
      (pss_cons (ps_if (pt_cmpR (op_eqK K rfl hr.units) (pv 0) pe_int (nomark _))
      (pss_one (ps_ret (pe_callS (ok_hanging_of T) (hr.mono (by decide)) (by rfl) T.g_hanging_of T.F_hanging_of.kp T.b_hanging_of (fun σ => passAt (takes_of rfl rfl rfl rfl) σ) (pa_cons (pv 1) (pa_cons (pv 2) (pa_cons (pv 3) pa_nil)))))) pss_nil)
      (pss_cons (ps_if (pt_cmpR (op_eqK K rfl hr.units) (pv 0) pe_int (nomark _))
      (pss_one (ps_ret (pe_callS (ok_number_of T) (hr.mono (by decide)) (by rfl) T.g_number_of T.F_number_of.kp T.b_number_of (fun σ => passAt (takes_of rfl rfl rfl rfl) σ) (pa_cons (pv 1) (pa_cons (pv 2) (pa_cons (pv 3) pa_nil)))))) pss_nil)
      (pss_cons (ps_if (pt_cmpR (op_eqK K rfl hr.units) (pv 0) pe_int (nomark _))
      (pss_one (ps_ret (pe_callS (ok_standing T) (hr.mono (by decide)) (by rfl) T.g_standing T.F_standing.kp T.b_standing (fun σ => passAt (takes_of rfl rfl rfl rfl) σ) (pa_cons (pv 1) (pa_cons (pv 2) pa_nil))))) pss_nil)
      (pss_one (ps_ret (pe_callS (ok_exchanges T) (hr.mono (by decide)) (by rfl) T.g_exchanges T.F_exchanges.kp T.b_exchanges (fun σ => passAt (takes_of rfl rfl rfl rfl) σ) (pa_cons (pv 1) (pa_cons (pv 2) (pa_cons (pv 3) (pa_cons (pv 3) pa_nil))))))))))))))))))), ?_⟩
  have no := ho _ rfl
  have eq : ∀ j : Int, Jt K (tTest (tOp (rEqD K) (tVar 0) (tC (.int j)))) (argEnv [false, false, false, false] [natD k, m, t, a] 4) (decide ((k : Int) = j)) := fun j => jt_test (jv_eqI (jv_var rfl rfl) jv_c)
  have two : JFs K [false, false] (tCons (tVar 1) (tCons (tVar 2) tNil)) (argEnv [false, false, false, false] [natD k, m, t, a] 4) [m, t] := jf_cons (jd_var rfl) (jf_cons (jd_var rfl) jf_nil)
  have three : JFs K [false, false, false] (tCons (tVar 1) (tCons (tVar 2) (tCons (tVar 3) tNil))) (argEnv [false, false, false, false] [natD k, m, t, a] 4) [m, t, a] := jf_cons (jd_var rfl) (jf_cons (jd_var rfl) (jf_cons (jd_var rfl) jf_nil))
  have pn : preNet [m, t] := ⟨m, t, rfl, hm, ht⟩
  have pw : preWithout [m, t, a] := ⟨m, t, a, rfl, hm, ht, ha⟩
  have pa : preArg [m, t, a] := ⟨m, t, a, rfl, hm, ht, ha, hl⟩
  refine run_if (eq 0) (fun _ => run_retSeq (run_retE (er_call (c := .net) two pn fun out po => need_bad hn po) no)) fun _ => run_next ?_
  refine run_if (eq 1) (fun _ => run_retSeq (run_retE (er_call (c := .net) two pn fun out po => postOr_bad hn po) no)) fun _ => run_next ?_
  refine run_if (eq 2) (fun _ => run_retSeq (run_retE (er_call (c := .net) two pn fun out po => postOr_bad hn po) no)) fun _ => run_next ?_
  refine run_if (eq 3) (fun _ => run_retSeq (run_retE (er_call (c := .net) three pw fun out po => postTie3_net hn po) no)) fun _ => run_next ?_
  refine run_if (eq 4) (fun _ => run_retSeq (run_retE (er_call (c := .net) three pw fun out po => postTie3_net hn po) no)) fun _ => run_next ?_
  refine run_if (eq 5) (fun _ => run_retSeq (run_retE (er_call (c := .net) two pn fun out po => postOr_bad hn po) no)) fun _ => run_next ?_
  refine run_if (eq 6) (fun _ => run_retSeq (run_retE (er_call (c := .net) two pn fun out po => postOr_bad hn po) no)) fun _ => run_next ?_
  refine run_if (eq 7) (fun _ => run_retSeq (run_retE (er_call (c := .net) three pa fun out po => postArg_bad hn po) no)) fun _ => run_next ?_
  refine run_if (eq 8) (fun _ => run_retSeq (run_retE (er_call (c := .net) (jf_cons (jd_var rfl) (jf_cons (jd_var rfl) (jf_cons (d := .int 0) (Jd.int jv_c) jf_nil))) ⟨m, t, 0, rfl, hm, ht⟩ fun out po => allh_bad hn po) no)) fun _ => run_next ?_
  refine run_if (eq 9) (fun _ => run_retSeq (run_retE (er_call (c := .net) three pa fun out po => postArg_bad hn po) no)) fun _ => run_next ?_
  refine run_if (eq 10) (fun _ => run_retSeq (run_retE (er_call (c := .net) three pa fun out po => postArg_bad hn po) no)) fun _ => run_next ?_
  refine run_if (eq 11) (fun _ => run_retSeq (run_retE (er_call (c := .net) two pn fun out po => postOr_bad hn po) no)) fun _ => run_next ?_
  exact run_retE (er_call (c := .net) (jf_cons (jd_var rfl) (jf_cons (jd_var rfl) (jf_cons (jd_var rfl) (jf_cons (jd_var rfl) jf_nil)))) ⟨m, t, a, a, rfl, hn, hm, ht, ha, hl⟩ fun out po => po) no

end
end Tr

namespace Tr
open PySem L2 DL TT
local macro_rules | `(tactic| walk_at "jv") => `(tactic| first
  | exact jv_c
  | exact jv_var rfl rfl
  | ((with_reducible refine' jv_add ?a ?b); (case a => walk_at "jv"); (case b => walk_at "jv"))
  | ((with_reducible refine' jv_sub ?a ?b); (case a => walk_at "jv"); (case b => walk_at "jv"))
  | ((with_reducible refine' jv_lt ?a ?b); (case a => walk_at "jv"); (case b => walk_at "jv"))
  | ((with_reducible refine' jv_le ?a ?b); (case a => walk_at "jv"); (case b => walk_at "jv"))
  | ((with_reducible refine' jv_gt ?a ?b); (case a => walk_at "jv"); (case b => walk_at "jv"))
  | ((with_reducible refine' jv_ge ?a ?b); (case a => walk_at "jv"); (case b => walk_at "jv"))
  | ((with_reducible refine' jv_eqI ?a ?b); (case a => walk_at "jv"); (case b => walk_at "jv"))
  | ((with_reducible refine' jv_neI ?a ?b); (case a => walk_at "jv"); (case b => walk_at "jv"))
  | ((with_reducible refine' jv_chain ?a ?b ?c); (case a => walk_at "jv"); (case b => walk_at "jv"); (case c => walk_at "jv"))
  | ((with_reducible refine' jv_not ?a); (case a => walk_at "jv"))
  | ((with_reducible refine' jv_len ?a); (case a => walk_at "js"))
  | ((with_reducible refine' jv_lenU ?a); (case a => walk_at "ju"))
  | ((with_reducible refine' jv_min2 ?a ?b); (case a => walk_at "jv"); (case b => walk_at "jv"))
  | ((with_reducible refine' jv_max2 ?a ?b); (case a => walk_at "jv"); (case b => walk_at "jv"))
  | assumption)
local macro_rules | `(tactic| walk_at "js") => `(tactic| first
  | exact js_var rfl
  | exact js_own rfl
  | exact Jd.lowS (js_var rfl)
  | assumption
  | exact Jd.nS (by assumption))
local macro_rules | `(tactic| walk_at "ju") => `(tactic| first
  | exact ju_var rfl
  | assumption)
local macro_rules | `(tactic| walk_at "jd") => `(tactic| first
  | exact jd_var rfl
  | exact Jd.low (jd_var rfl)
  | exact Jd.low (by assumption)
  | assumption
  | ((refine' Jd.int (Jd.eqV ?a ?b)); (case a => walk_at "jv"); (case b => first | rfl | (congr 1; omega)))
  | ((refine' Jd.bool ?a); (case a => walk_at "jv")))
local macro_rules | `(tactic| walk_at "jf") => `(tactic| first
  | exact jf_nil
  | ((with_reducible refine' jf_cons ?a ?b); (case a => walk_at "jd"); (case b => walk_at "jf")))
local macro_rules | `(tactic| walk_at "less") => `(tactic| first
  | exact LessI.nil
  | (refine LessI.keep ?_; walk_at "less")
  | (refine LessI.drop ?_; walk_at "less"))
local macro_rules | `(tactic| walk_at "loop") => `(tactic| (refine' run_loopW ?x ?y; (case x => exact rfl); (case y => walk_at "less")))

section
variable {P : Program} {w : World} {K : PySem.W.Frag} {mg : Str → Option Value} {base : Heap}

-- leans on ok__law_asked
def postYes (_ : List D) (out : Out) : Prop := out = .val (.bool true)
theorem refused_read {K : PySem.W.Frag} {cl : XC → Addr} {net a : Addr} (six : SixOk K cl net) {σ : L2.St} {H : Hp} {D : Ends} (h4 : σ[4]? = some (some (.ref a))) (h5 : 5 < σ.length) (q : D.rt (.bl true) H) :
    tSeq (tAsg (tOrV (tCB (rIsEG K (.ref (cl .net)) none a) (tCons (tVar 4) (tCons (tC (.ref (cl .tie))) tNil))) (tOrV (tCB (rIsEG K (.ref (cl .net)) none a) (tCons (tVar 4) (tCons (tC (.ref (cl .self))) tNil))) (tCB (rIsEG K (.ref (cl .net)) none a) (tCons (tVar 4) (tCons (tC (.ref (cl .hang))) tNil))))) (gName 5))
      (tSeq (tAsg (tOrV (tVar 5) (tOrV (tCB (rIsEG K (.ref (cl .net)) none a) (tCons (tVar 4) (tCons (tC (.ref (cl .numb))) tNil))) (tCB (rIsEG K (.ref (cl .net)) none a) (tCons (tVar 4) (tCons (tC (.ref (cl .many))) tNil))))) (gName 5))
      (tRet (tAndV (tCB (rIsEG K (.ref (cl .net)) none a) (tCons (tVar 4) (tCons (tC (.ref (cl .net))) tNil))) (tAndV (tCB (rIsEG K (.ref (cl .net)) none a) (tCons (tVar 4) (tCons (tC (.ty "ValueError")) tNil))) (tNotV (tVar 5)))))) D σ H := by
  have one := fun c => six.one .net c
  have s4 : ∀ v, (σ.set 5 (some v))[4]? = some (some (.ref a)) := fun v => by rw [List.getElem?_set_ne (by decide)]; exact h4
  have t4 : ∀ v u, ((σ.set 5 (some v)).set 5 (some u))[4]? = some (some (.ref a)) := fun v u => by rw [List.getElem?_set_ne (by decide)]; exact s4 v
  refine isE_ref (six.ex .net) h4 (one .tie) ⟨false, rfl, iteF (isE_ref (six.ex .net) h4 (one .self) ⟨false, rfl, iteF (isE_ref (six.ex .net) h4 (one .hang) ?_)⟩)⟩
  refine ⟨.bl false, List.getElem?_set_self h5, false, rfl, iteF (isE_ref (six.ex .net) (s4 _) (one .numb) ⟨false, rfl, iteF (isE_ref (six.ex .net) (s4 _) (one .many) ?_)⟩)⟩
  refine isE_ref (six.ex .net) (t4 _ _) (one .net) ⟨true, rfl, iteT (isE_ty (six.ex .net) (t4 _ _) (six.val .net) ⟨true, rfl, iteT ?_⟩)⟩
  exact ⟨.bl false, List.getElem?_set_self (by rw [List.length_set]; exact h5), false, rfl, q⟩
theorem ok__law_refused (T : Tx K mg) : FnOk P w K mg base (L2.CX P w) 10 T.a__law_refused T.d__law_refused ["_law_which", "_law_many", "_law_ties", "_law_odd"] (spD K T.cl [false, false, false, false] true preAsk postYes) := by
  refine fnD T.F__law_refused sc__law_refused rfl fun cdv A outer s E M B H Q ds hr hp wf ho => ?_
  have hp' := hp
  obtain ⟨k, m, t, a, rfl, hn, hm, ht, ha, hl⟩ := hp
  refine ⟨_, (pss_cons (ps_try_as (i := 4) rfl rfl sc__law_refused.nd rfl rfl ⟨rfl, by decide, .inl T.gC_NetError⟩ (takes_of rfl rfl rfl rfl) (fun W pn xe tk _ => (pss_one (ps_expr (pe_callS (ok__law_asked T) (hr.mono (by decide)) (by rfl) T.g__law_asked T.F__law_asked.kp T.b__law_asked (fun σ => passAt tk σ) (pa_cons (pv 0) (pa_cons (pv 1) (pa_cons (pv 2) (pa_cons (pv 3) pa_nil)))))))) (fun a oe cls d pn hz hf => (pss_cons (ps_set (i := 5) sc__law_refused.nd rfl (Or.inl rfl) (pe_or (pe_callB (isEG_K K rfl hz hf) (by rfl) T.n_isinstance (by decide +kernel) (pa_cons (pv 4) (pa_cons (pe_glob (v := .ref T.C_BadTie) (by rfl) T.gC_BadTie rfl) pa_nil))) (pe_or (pe_callB (isEG_K K rfl hz hf) (by rfl) T.n_isinstance (by decide +kernel) (pa_cons (pv 4) (pa_cons (pe_glob (v := .ref T.C_SelfTie) (by rfl) T.gC_SelfTie rfl) pa_nil))) (pe_one (pe_callB (isEG_K K rfl hz hf) (by rfl) T.n_isinstance (by decide +kernel) (pa_cons (pv 4) (pa_cons (pe_glob (v := .ref T.C_BadHanging) (by rfl) T.gC_BadHanging rfl) pa_nil)))))))
      (pss_cons (ps_set (i := 5) sc__law_refused.nd rfl (Or.inl rfl) (pe_or (pv 5) (pe_or (pe_callB (isEG_K K rfl hz hf) (by rfl) T.n_isinstance (by decide +kernel) (pa_cons (pv 4) (pa_cons (pe_glob (v := .ref T.C_BadNumber) (by rfl) T.gC_BadNumber rfl) pa_nil))) (pe_one (pe_callB (isEG_K K rfl hz hf) (by rfl) T.n_isinstance (by decide +kernel) (pa_cons (pv 4) (pa_cons (pe_glob (v := .ref T.C_TooMany) (by rfl) T.gC_TooMany rfl) pa_nil)))))))
      (pss_one (ps_ret (pe_and (pe_callB (isEG_K K rfl hz hf) (by rfl) T.n_isinstance (by decide +kernel) (pa_cons (pv 4) (pa_cons (pe_glob (v := .ref T.C_BadNet) (by rfl) T.gC_BadNet rfl) pa_nil))) (pe_and (pe_callB (isEG_K K rfl hz hf) (by rfl) T.n_isinstance (by decide +kernel) (pa_cons (pv 4) (pa_cons (pe_bltn (v := .ty "ValueError") (by rfl) T.n_ValueError (by decide +kernel) rfl) pa_nil))) (pe_one (pe_not (pv 5)))))))))))
      (pss_one (ps_ret pe_bl))), ?_⟩
  have ret := ho (.val (.bool true)) rfl
  refine fun L σ H1 g => run_dropW (C := ⟨K, M, B, H, H⟩) (er_callW (c := .net) (jf_cons (jd_var rfl) (jf_cons (jd_var rfl) (jf_cons (jd_var rfl) (jf_cons (jd_var rfl) jf_nil)))) hp' fun out po => po) (fun L σ H1 g => ?_) L σ H1 g
  refine wAs_caught ((six_ok T).net .net) fun a ha => ?_
  have len : σ.length = 6 := g.ok.len
  rw [← T.cl_BadTie, ← T.cl_SelfTie, ← T.cl_BadHanging, ← T.cl_BadNumber, ← T.cl_TooMany, ← T.cl_BadNet]
  refine refused_read (six_ok T) (List.getElem?_set_self (by omega)) (by rw [List.length_set]; omega) ?_
  exact ret _ _ (g.b0.trans g.b1) (.bl true)

end
end Tr

namespace Tr
open PySem L2 DL TT
local macro_rules | `(tactic| walk_at "jv") => `(tactic| first
  | exact jv_c
  | exact jv_var rfl rfl
  | ((with_reducible refine' jv_add ?a ?b); (case a => walk_at "jv"); (case b => walk_at "jv"))
  | ((with_reducible refine' jv_sub ?a ?b); (case a => walk_at "jv"); (case b => walk_at "jv"))
  | ((with_reducible refine' jv_lt ?a ?b); (case a => walk_at "jv"); (case b => walk_at "jv"))
  | ((with_reducible refine' jv_le ?a ?b); (case a => walk_at "jv"); (case b => walk_at "jv"))
  | ((with_reducible refine' jv_gt ?a ?b); (case a => walk_at "jv"); (case b => walk_at "jv"))
  | ((with_reducible refine' jv_ge ?a ?b); (case a => walk_at "jv"); (case b => walk_at "jv"))
  | ((with_reducible refine' jv_eqI ?a ?b); (case a => walk_at "jv"); (case b => walk_at "jv"))
  | ((with_reducible refine' jv_neI ?a ?b); (case a => walk_at "jv"); (case b => walk_at "jv"))
  | ((with_reducible refine' jv_chain ?a ?b ?c); (case a => walk_at "jv"); (case b => walk_at "jv"); (case c => walk_at "jv"))
  | ((with_reducible refine' jv_not ?a); (case a => walk_at "jv"))
  | ((with_reducible refine' jv_len ?a); (case a => walk_at "js"))
  | ((with_reducible refine' jv_lenU ?a); (case a => walk_at "ju"))
  | ((with_reducible refine' jv_min2 ?a ?b); (case a => walk_at "jv"); (case b => walk_at "jv"))
  | ((with_reducible refine' jv_max2 ?a ?b); (case a => walk_at "jv"); (case b => walk_at "jv"))
  | assumption)
local macro_rules | `(tactic| walk_at "js") => `(tactic| first
  | exact js_var rfl
  | exact js_own rfl
  | exact Jd.lowS (js_var rfl)
  | assumption
  | exact Jd.nS (by assumption))
local macro_rules | `(tactic| walk_at "ju") => `(tactic| first
  | exact ju_var rfl
  | assumption)
local macro_rules | `(tactic| walk_at "jd") => `(tactic| first
  | exact jd_var rfl
  | exact Jd.low (jd_var rfl)
  | exact Jd.low (by assumption)
  | assumption
  | ((refine' Jd.int (Jd.eqV ?a ?b)); (case a => walk_at "jv"); (case b => first | rfl | (congr 1; omega)))
  | ((refine' Jd.bool ?a); (case a => walk_at "jv")))
local macro_rules | `(tactic| walk_at "jf") => `(tactic| first
  | exact jf_nil
  | ((with_reducible refine' jf_cons ?a ?b); (case a => walk_at "jd"); (case b => walk_at "jf")))
local macro_rules | `(tactic| walk_at "less") => `(tactic| first
  | exact LessI.nil
  | (refine LessI.keep ?_; walk_at "less")
  | (refine LessI.drop ?_; walk_at "less"))
local macro_rules | `(tactic| walk_at "loop") => `(tactic| (refine' run_loopW ?x ?y; (case x => exact rfl); (case y => walk_at "less")))

section
variable {P : Program} {w : World} {K : PySem.W.Frag} {mg : Str → Option Value} {base : Heap}

def oddsD : List D := [.int (-1), .none, .bool true, .str "x", .list [natD 0, natD 0, natD 0, natD 0, natD 0, natD 0, natD 0], .int ((10 : Int) ^ (30 : Int).toNat)]
theorem odds_ok : ∀ d, d ∈ oddsD → pln d = true ∧ ∀ xs, d = .list xs → xs.length ≤ 1000 := fun d hd => by
  unfold oddsD at hd
  simp only [List.mem_cons, List.not_mem_nil, or_false] at hd
  rcases hd with rfl | rfl | rfl | rfl | rfl | rfl
  · exact ⟨rfl, fun xs e => (nomatch e)⟩
  · exact ⟨rfl, fun xs e => (nomatch e)⟩
  · exact ⟨rfl, fun xs e => (nomatch e)⟩
  · exact ⟨rfl, fun xs e => (nomatch e)⟩
  · exact ⟨rfl, fun xs e => by rw [← PyData.list.inj e]; decide⟩
  · exact ⟨rfl, fun xs e => (nomatch e)⟩
theorem ok_law (T : Tx K mg) : FnTop P w K mg T.a_law T.d_law "_law_script" := by
  refine fnTop (k := 12) T.cl T.F_law sc_law ⟨rfl, by decide, by decide⟩ fun base cdv s M B H Q ds hr hp wf ho => ?_
  obtain ⟨ns, rfl, so⟩ := hp
  refine ⟨_, (pss_cons (ps_asg (pe_call (ok__law_net T) (hr.mono (by decide)) (by rfl) T.g__law_net T.F__law_net.kp T.b__law_net .nil passL (pa_cons (pv 0) (pa_cons pe_int (pa_cons pe_int pa_nil)))) (pgt_K K (n := 2) rfl rfl (pgs_cons (pg_name (i := 1) sc_law.nd rfl (Or.inl rfl)) (pgs_cons (pg_name (i := 2) sc_law.nd rfl (Or.inl rfl)) pgs_nil))))
      (pss_cons (ps_set (i := 3) sc_law.nd rfl (Or.inl rfl) (pe_call (ok__law_mixed T) (hr.mono (by decide)) (by rfl) T.g__law_mixed T.F__law_mixed.kp T.b__law_mixed .nil passL (pa_cons (pv 0) (pa_cons pe_int pa_nil))))
      (pss_cons (ps_if (pt_cmp (pc_notN (pe_call (ok_need_net T) (hr.mono (by decide)) (by rfl) T.g_need_net T.F_need_net.kp T.b_need_net .nil passL (pa_cons (pv 1) (pa_cons (pe_callTy (list_K K rfl) (by rfl) T.n_list (by decide +kernel) (pa_cons (pv 2) pa_nil)) pa_nil)))) rfl)
      (pss_one (ps_ret pe_bl)) pss_nil)
      (pss_cons (ps_set (i := 4) sc_law.nd rfl (Or.inl rfl) (pe_call (ok__law_spoilt T) (hr.mono (by decide)) (by rfl) T.g__law_spoilt T.F__law_spoilt.kp T.b__law_spoilt .nil passL (pa_cons (pv 1) (pa_cons (pv 2) (pa_cons (pe_op op_mod (pv 3) pe_int) (pa_cons (pe_op op_fdivA (pv 3) pe_int) pa_nil))))))
      (pss_cons (ps_if (PW.pt (pw_and (pt_cmpR op_gt (pe_op op_mod (pv 3) pe_int) pe_int (nomark _)) (pw_and1 (pt_cmpR (op_eqK K rfl hr.units) (pe_callB (len_K K rfl) (by rfl) T.n_len (by decide +kernel) (pa_cons (pv 2) pa_nil)) pe_int (nomark _)))))
      (pss_one (ps_set (i := 4) sc_law.nd rfl (Or.inl rfl) (pe_tup (pa_cons (pv 1) (pa_cons (pe_op op_addD (pe_op op_addD (pe_slice (sl_K K rfl) (pv 2) po_none (po_some (pe_op op_mod (pe_op op_fdivA (pv 3) pe_int) pe_int))) (pe_lst (pa_cons (pe_call (ok__law_bad_tie T) (hr.mono (by decide)) (by rfl) T.g__law_bad_tie T.F__law_bad_tie.kp T.b__law_bad_tie .nil passL (pa_cons (pe_op op_fdivA (pv 3) pe_int) (pa_cons (pv 1) pa_nil))) pa_nil))) (pe_slice (sl_K K rfl) (pv 2) (po_some (pe_op op_addD pe_int (pe_op op_mod (pe_op op_fdivA (pv 3) pe_int) pe_int))) po_none)) pa_nil))))) pss_nil)
      (pss_cons (ps_set (i := 5) sc_law.nd rfl (Or.inl rfl) (pe_callTy (str_K K rfl rfl hr) (by rfl) T.n_str (by decide +kernel) (pa_cons (pv 4) pa_nil)))
      (pss_cons (ps_set (i := 6) sc_law.nd rfl (Or.inl rfl) (pe_ix (ix_K K rfl) (pe_lst (pa_cons (pe_un un_neg pe_int) (pa_cons pe_non (pa_cons pe_bl (pa_cons pe_str (pa_cons (pe_lst (pa_cons pe_int (pa_cons pe_int (pa_cons pe_int (pa_cons pe_int (pa_cons pe_int (pa_cons pe_int (pa_cons pe_int pa_nil)))))))) (pa_cons (pe_op op_pow pe_int pe_int) pa_nil))))))) (pe_op op_mod (pe_op op_fdivA (pv 3) pe_int) pe_int) (fun _ _ => rfl)))
      (pss_cons (ps_for PassesOwn.never rfl (list_pi K rfl (pe_lst (pa_cons (pe_op op_mod (pe_op op_fdivA (pv 3) pe_int) pe_int) (pa_cons (pe_op op_mod (pe_op op_addD (pe_op op_fdivA (pv 3) pe_int) pe_int) pe_int) (pa_cons pe_int pa_nil))))) (pg_name (i := 7) sc_law.nd rfl (Or.inl rfl))
      (pss_one (ps_if (pt_not (pt_val (pe_call (ok__law_refused T) (hr.mono (by decide)) (by rfl) T.g__law_refused T.F__law_refused.kp T.b__law_refused .nil passL (pa_cons (pv 7) (pa_cons (pe_ix (ix_K K rfl) (pv 4) pe_int (fun _ _ => rfl)) (pa_cons (pe_ix (ix_K K rfl) (pv 4) pe_int (fun _ _ => rfl)) (pa_cons (pv 6) pa_nil)))))))
      (pss_one (ps_ret pe_bl)) pss_nil)))
      (pss_one (ps_ret (pe_cmpR op_eq (pe_callTy (str_K K rfl rfl hr) (by rfl) T.n_str (by decide +kernel) (pa_cons (pv 4) pa_nil)) (pv 5) (nomark _)))))))))))), ?_⟩
  have ret := ho (.val (.bool true)) rfl
  refine run_tgP (n := true) (jd_callP (p := fun d => ∃ (n : Nat) (ts : List Tie), d = .tuple [natD n, .list (ts.map tieD)] ∧ NetOk n ts) (jf_cons (jd_var rfl) (jf_cons (Jd.int (j := ((7 : Nat) : Int)) jv_c) (jf_cons (Jd.int (j := ((16 : Nat) : Int)) jv_c) jf_nil))) ⟨ns, 7, 16, rfl, so, by decide, by decide, by decide, by decide⟩ fun out ⟨ns', m, r, n, ts, e, n1, nm, tl, tb, po⟩ => ⟨_, ⟨n, ts, rfl, ?_⟩, .inl po⟩) fun d ⟨n, ts, e, nk⟩ => ?_
  · obtain ⟨_, e2⟩ := one_cons e
    obtain ⟨e2, e3⟩ := one_cons e2
    have e4 := natD_inj e2
    have e5 := natD_inj (one_cons e3).1
    exact ⟨n1, by omega, by omega, tb⟩
  subst e
  refine ⟨_, _, tg_two, ?_⟩
  have n0 := nk.pos
  have n7 := nk.le
  have tl := nk.len
  have tb := nk.inb
  obtain ⟨c, hc⟩ : ∃ c, c = mixf ns 3 := ⟨_, rfl⟩
  refine run_setI (z := (c : Int)) ((jv_mixC so 3 (by decide) rfl (Jd.int jv_c)).eqV (by rw [hc])) ?_
  refine run_if (b := false) (jt_test ((jv_notN (v := .non) (jv_call (d := .none) (jf_cons (jd_nat rfl) (jf_cons (jn_list (js_var rfl)).nD.low jf_nil)) (preNet_of n ts) (fun out po => need_ok nk po) rfl)).eqV rfl)) (fun e => nomatch e) fun _ => run_next ?_
  have dv : ∀ (k : Nat) (env : List Sl), (0 < k ∧ k < 1000) → env[3]? = some (.val true (natD c)) → JV K (tOp (rI CDivA fun i j => .int (i.fdiv j)) (tVar 3) (tC (.int (k : Int)))) env (.int ((c / k : Nat) : Int)) := fun k env hk h3 => (jv_div (j := (c : Int)) (k := (k : Int)) (jv_var h3 rfl) jv_c (by omega) (by omega)).eqV (by congr 1)
  refine run_tgP (n := false) (jd_callP (p := fun d => ∃ m t, BadN m t ∧ d = .tuple [m, t]) (jf_cons (jd_nat rfl) (jf_cons (jd_ties rfl) (jf_cons (d := natD (c % 5)) (Jd.int ((jv_mod (jv_var rfl rfl) jv_c (by decide)).eqV (by congr 1))) (jf_cons (d := natD (c / 5)) (Jd.int ((jv_div (jv_var rfl rfl) jv_c (by decide) (by decide)).eqV (by congr 1))) jf_nil)))) ⟨n, ts, _, _, rfl, nk⟩ fun out ⟨m, t, h, po⟩ => ⟨_, ⟨m, t, h, rfl⟩, .inl po⟩) fun d ⟨m, t, bn, e⟩ => ?_
  subst e
  refine ⟨_, _, tg_name, ?_⟩
  refine run_ifJ (b := decide ((2 : Int) < (c : Int) % 5) && decide ((ts.length : Int) = 16)) (fun env' => ∃ m t, env' = [.val false (scrD ns), .val true (natD n), .val true (.list (ts.map tieD)), .val true (natD c), .val false (.tuple [m, t]), .un, .un, .un] ∧ BadN m t) (jt_and (jt_test (jv_gt (jv_mod (jv_var rfl rfl) jv_c (by decide)) jv_c)) fun _ => jt_test (jv_eqI ((jv_len (js_var rfl)).eqV (by rw [List.length_map])) jv_c)) (fun env' ⟨m, t, e1, bn⟩ => ?_) (fun go z => ?_) (fun go z => run_next (go _ ⟨m, t, rfl, bn⟩))
  · subst e1
    obtain ⟨x, hx⟩ : ∃ x, x = strD (.tuple [m, t]) := ⟨_, rfl⟩
    refine run_set (n := true) (d := .str x) (Jd.ofV ((jv_strD (jd_var rfl) bn.so).eqV (by rw [hx])) rfl) ?_
    obtain ⟨od, hod⟩ : ∃ od, od = oddsD.getD (c / 11 % 6) .none := ⟨_, rfl⟩
    have k6 : c / 11 % 6 < oddsD.length := Nat.mod_lt _ (by decide)
    obtain ⟨o1, o2⟩ := odds_ok od (by
      rw [hod, List.getD_eq_getElem?_getD, List.getElem?_eq_getElem k6]
      exact List.getElem_mem _)
    refine run_set (n := true) (d := od) (((jd_ixE (enc := id) (xs := oddsD) (c / 11 % 6) .none (n := true) (((jn_lst (ds := oddsD) (ja_cons (Jd.int jv_m1) (ja_cons (Jd.ofV jv_c rfl) (ja_cons (Jd.bool jv_c) (ja_cons (Jd.ofV jv_c rfl) (ja_cons (jn_lst (ja_cons (Jd.int jv_c) (ja_cons (Jd.int jv_c) (ja_cons (Jd.int jv_c) (ja_cons (Jd.int jv_c) (ja_cons (Jd.int jv_c) (ja_cons (Jd.int jv_c) (ja_cons (Jd.int jv_c) ja_nil))))))) (by simp)).nD (ja_cons (Jd.int (jv_pow jv_c jv_c ⟨by decide, by decide, by decide⟩)) ja_nil)))))) (by simp [oddsD])).nS).eqS (List.map_id _).symm) ((jv_mod (j := ((c / 11 : Nat) : Int)) (k := 6) (dv 11 _ (by decide) rfl) jv_c (by decide)).eqV (by congr 1)) rfl k6)).eqD hod.symm) ?_
    refine run_forL (enc := natD) (n0 := true) [c / 25 % 13, (c / 25 + 5) % 13, 0] (fun k env => env = [.val false (scrD ns), .val true (natD n), .val true (.list (ts.map tieD)), .val true (natD c), .val false (.tuple [m, t]), .val true (.str x), .val true od, .un]) (jn_lst (ja_cons (Jd.int ((jv_mod (j := ((c / 25 : Nat) : Int)) (k := 13) (dv 25 _ (by decide) rfl) jv_c (by decide)).eqV (by congr 1))) (ja_cons (Jd.int ((jv_mod (j := ((c / 25 + 5 : Nat) : Int)) (k := 13) ((jv_add (j := ((c / 25 : Nat) : Int)) (k := 5) (dv 25 _ (by decide) rfl) jv_c).eqV (by congr 1)) jv_c (by decide)).eqV (by congr 1))) (ja_cons (Jd.int jv_c) ja_nil))) (by simp)).nD rfl (fun hb' i k env1 hx e1 => ?_) (fun env1 e1 => ?_)
    · subst e1
      refine ⟨_, _, tg_name, ?_⟩
      have bt : JU K (tVar 4) [.val false (scrD ns), .val true (natD n), .val true (.list (ts.map tieD)), .val true (natD c), .val false (.tuple [m, t]), .val true (.str x), .val true od, .val true (natD k)] false [m, t] := ju_var rfl
      refine run_one (run_if (b := false) ((jt_not (b := true) (jt_B (jv_call (d := .bool true) (jf_cons (jd_nat rfl) (jf_cons (jd_ixU bt jv_c rfl) (jf_cons (jd_ixU bt jv_c rfl) (jf_cons (jd_var rfl).low jf_nil)))) ⟨k, m, t, od, rfl, bn.no, bn.pm, bn.pt, o1, o2⟩ (fun out po => po) rfl))).to rfl) (fun e => nomatch e) fun _ => run_next ?_)
      walk_at "loop"
    · subst e1
      exact run_retV (v := .bl true) (n := true) (d := .bool true) (jv_eqS ((jv_strD (jd_var rfl) bn.so).eqV (x := .str x) (by rw [hx])) (jv_var (d := .str x) rfl rfl)) rfl ret
  · obtain ⟨j, hj⟩ : ∃ j, j = c / 5 % 16 := ⟨_, rfl⟩
    have bt := bt_ok (c := c / 80) n7
    obtain ⟨e, he⟩ : ∃ e : List Sl, e = [.val false (scrD ns), .val true (natD n), .val true (.list (ts.map tieD)), .val true (natD c), .val false (.tuple [m, t]), .un, .un, .un] := ⟨_, rfl⟩
    have h1 : e[1]? = some (.val true (natD n)) := by rw [he]; rfl
    have h2 : e[2]? = some (.val true (.list (ts.map tieD))) := by rw [he]; rfl
    have h3 : e[3]? = some (.val true (natD c)) := by rw [he]; rfl
    have at_ : JV K (tOp (rI (fun _ j => 0 < j) fun i j => .int (i % j)) (tOp (rI CDivA fun i j => .int (i.fdiv j)) (tVar 3) (tC (.int 5))) (tC (.int 16))) e (.int (j : Int)) := by
      have h := jv_mod (j := ((c / 5 : Nat) : Int)) (k := 16) (dv 5 e ⟨by omega, by omega⟩ h3) jv_c (by omega)
      rw [hj]
      exact h
    have tk : JS K (tSl (rSlL K) (tVar 2) tNoPart (tPart (tOp (rI (fun _ j => 0 < j) fun i j => .int (i % j)) (tOp (rI CDivA fun i j => .int (i.fdiv j)) (tVar 3) (tC (.int 5))) (tC (.int 16))))) e false ((ts.take j).map tieD) :=
      Jd.lowS (((jn_slice (js_var h2) jo_none (jo_some at_)).eqN (by rw [cutG_map]; congr 1; exact cutG_to ts j)).nS)
    have dr : JS K (tSl (rSlL K) (tVar 2) (tPart (tOp rAddD (tC (.int 1)) (tOp (rI (fun _ j => 0 < j) fun i j => .int (i % j)) (tOp (rI CDivA fun i j => .int (i.fdiv j)) (tVar 3) (tC (.int 5))) (tC (.int 16))))) tNoPart) e false ((ts.drop (1 + j)).map tieD) :=
      Jd.lowS (((jn_slice (js_var h2) (jo_some ((jv_add jv_c at_).eqV (x := .int ((1 + j : Nat) : Int)) (by congr 1))) jo_none).eqN (by rw [cutG_map]; congr 1; exact cutG_from ts (1 + j))).nS)
    have bd : JD K (tCall (spD K T.cl [false, false] true preBt postBt) [] E0 (tCons (tOp (rI CDivA fun i j => .int (i.fdiv j)) (tVar 3) (tC (.int 80))) (tCons (tVar 1) tNil))) e true (btD (c / 80) n) :=
      jd_call (jf_cons (d := natD (c / 80)) (Jd.int (dv 80 e ⟨by omega, by omega⟩ h3)) (jf_cons (jd_nat h1) jf_nil)) ⟨c / 80, n, rfl, n7⟩ fun out po => .inl (bt_inj po)
    have all := jn_cat (jn_cat tk (jn_lst (n := false) (ja_cons bd.low ja_nil) (by simp)).nS (by rw [List.length_map, List.length_take]; simp; omega)).nS dr (by rw [List.length_append, List.length_map, List.length_map, List.length_take, List.length_drop]; simp; omega)
    have tup := Jd.uD (ju_tup (n := false) (ja_cons (jd_nat h1) (ja_cons all.nD ja_nil)) (by simp))
    rw [he] at tup
    have bn' := with_bad (A := ts.take j) (B := ts.drop (1 + j)) n7 (fun t ht => tb t (List.mem_of_mem_take ht)) (fun t ht => tb t (List.mem_of_mem_drop ht)) (by rw [List.length_take, List.length_drop]; omega) bt.1 bt.2
    refine run_set tup (go _ ⟨_, _, rfl, bn'⟩)

end
end Tr

namespace Tr
open PySem L2 DL TT

theorem law_cl {K : PySem.W.Frag} (cl cl2 : XC → Addr) : spD K cl [false] true preLaw postLaw = spD K cl2 [false] true preLaw postLaw := by
  have one : ∀ (a b : XC → Addr) (vs : List V) (H : Hp) (Q : VK) (E : XK), spD K a [false] true preLaw postLaw vs H Q E → spD K b [false] true preLaw postLaw vs H Q E := fun a b vs H Q E ⟨M, B, ds, h1, h2, h3, h4⟩ => ⟨M, B, ds, h1, h2, h3, fun out po => by
    have e : out = .val (.bool true) := po
    have h := h4 out po
    subst e
    exact h⟩
  exact funext fun vs => funext fun H => funext fun Q => funext fun E => propext ⟨one cl cl2 vs H Q E, one cl2 cl vs H Q E⟩
theorem all_mk {P : Program} {w : World} {K : PySem.W.Frag} {h : Heap} {mg : Str → Option Value} {fa : Addr} (X : K.In h) (G : h.Ns mainGlobals mg) (hfa : mg "law" = some (.ref fa))
    {f_is_below : Addr} {od_is_below an_is_below : Option Addr} {sl_is_below : Array (Option Value)} {oc_is_below kV_is_below dc_is_below pm_is_below cd_is_below ct_is_below : Value}
    (a_is_below : PySem.W.nsIn K mainGlobals "is_below" = some (some (.ref f_is_below))) (l_is_below : K.lookup f_is_below = some ⟨oc_is_below, od_is_below, .func (PySem.W.fnOf "is_below" "is_below" (defArgs s_is_below) (defBody s_is_below) (defScope s_is_below) .none kV_is_below dc_is_below pm_is_below an_is_below cd_is_below ct_is_below), sl_is_below⟩) (c_is_below : PySem.W.codeIn K cd_is_below "is_below" = true) (k_is_below : PySem.W.keepIn K (.ref f_is_below) = true)
    {f_is_tie : Addr} {od_is_tie an_is_tie : Option Addr} {sl_is_tie : Array (Option Value)} {oc_is_tie kV_is_tie dc_is_tie pm_is_tie cd_is_tie ct_is_tie : Value}
    (a_is_tie : PySem.W.nsIn K mainGlobals "is_tie" = some (some (.ref f_is_tie))) (l_is_tie : K.lookup f_is_tie = some ⟨oc_is_tie, od_is_tie, .func (PySem.W.fnOf "is_tie" "is_tie" (defArgs s_is_tie) (defBody s_is_tie) (defScope s_is_tie) .none kV_is_tie dc_is_tie pm_is_tie an_is_tie cd_is_tie ct_is_tie), sl_is_tie⟩) (c_is_tie : PySem.W.codeIn K cd_is_tie "is_tie" = true) (k_is_tie : PySem.W.keepIn K (.ref f_is_tie) = true)
    {f_need_net : Addr} {od_need_net an_need_net : Option Addr} {sl_need_net : Array (Option Value)} {oc_need_net kV_need_net dc_need_net pm_need_net cd_need_net ct_need_net : Value}
    (a_need_net : PySem.W.nsIn K mainGlobals "need_net" = some (some (.ref f_need_net))) (l_need_net : K.lookup f_need_net = some ⟨oc_need_net, od_need_net, .func (PySem.W.fnOf "need_net" "need_net" (defArgs s_need_net) (defBody s_need_net) (defScope s_need_net) .none kV_need_net dc_need_net pm_need_net an_need_net cd_need_net ct_need_net), sl_need_net⟩) (c_need_net : PySem.W.codeIn K cd_need_net "need_net" = true) (k_need_net : PySem.W.keepIn K (.ref f_need_net) = true)
    {f_need_tie : Addr} {od_need_tie an_need_tie : Option Addr} {sl_need_tie : Array (Option Value)} {oc_need_tie kV_need_tie dc_need_tie pm_need_tie cd_need_tie ct_need_tie : Value}
    (a_need_tie : PySem.W.nsIn K mainGlobals "need_tie" = some (some (.ref f_need_tie))) (l_need_tie : K.lookup f_need_tie = some ⟨oc_need_tie, od_need_tie, .func (PySem.W.fnOf "need_tie" "need_tie" (defArgs s_need_tie) (defBody s_need_tie) (defScope s_need_tie) .none kV_need_tie dc_need_tie pm_need_tie an_need_tie cd_need_tie ct_need_tie), sl_need_tie⟩) (c_need_tie : PySem.W.codeIn K cd_need_tie "need_tie" = true) (k_need_tie : PySem.W.keepIn K (.ref f_need_tie) = true)
    {f_marks_of : Addr} {od_marks_of an_marks_of : Option Addr} {sl_marks_of : Array (Option Value)} {oc_marks_of kV_marks_of dc_marks_of pm_marks_of cd_marks_of ct_marks_of : Value}
    (a_marks_of : PySem.W.nsIn K mainGlobals "marks_of" = some (some (.ref f_marks_of))) (l_marks_of : K.lookup f_marks_of = some ⟨oc_marks_of, od_marks_of, .func (PySem.W.fnOf "marks_of" "marks_of" (defArgs s_marks_of) (defBody s_marks_of) (defScope s_marks_of) .none kV_marks_of dc_marks_of pm_marks_of an_marks_of cd_marks_of ct_marks_of), sl_marks_of⟩) (c_marks_of : PySem.W.codeIn K cd_marks_of "marks_of" = true) (k_marks_of : PySem.W.keepIn K (.ref f_marks_of) = true)
    {f_parts_of : Addr} {od_parts_of an_parts_of : Option Addr} {sl_parts_of : Array (Option Value)} {oc_parts_of kV_parts_of dc_parts_of pm_parts_of cd_parts_of ct_parts_of : Value}
    (a_parts_of : PySem.W.nsIn K mainGlobals "parts_of" = some (some (.ref f_parts_of))) (l_parts_of : K.lookup f_parts_of = some ⟨oc_parts_of, od_parts_of, .func (PySem.W.fnOf "parts_of" "parts_of" (defArgs s_parts_of) (defBody s_parts_of) (defScope s_parts_of) .none kV_parts_of dc_parts_of pm_parts_of an_parts_of cd_parts_of ct_parts_of), sl_parts_of⟩) (c_parts_of : PySem.W.codeIn K cd_parts_of "parts_of" = true) (k_parts_of : PySem.W.keepIn K (.ref f_parts_of) = true)
    {f_hangs : Addr} {od_hangs an_hangs : Option Addr} {sl_hangs : Array (Option Value)} {oc_hangs kV_hangs dc_hangs pm_hangs cd_hangs ct_hangs : Value}
    (a_hangs : PySem.W.nsIn K mainGlobals "hangs" = some (some (.ref f_hangs))) (l_hangs : K.lookup f_hangs = some ⟨oc_hangs, od_hangs, .func (PySem.W.fnOf "hangs" "hangs" (defArgs s_hangs) (defBody s_hangs) (defScope s_hangs) .none kV_hangs dc_hangs pm_hangs an_hangs cd_hangs ct_hangs), sl_hangs⟩) (c_hangs : PySem.W.codeIn K cd_hangs "hangs" = true) (k_hangs : PySem.W.keepIn K (.ref f_hangs) = true)
    {f_net_without : Addr} {od_net_without an_net_without : Option Addr} {sl_net_without : Array (Option Value)} {oc_net_without kV_net_without dc_net_without pm_net_without cd_net_without ct_net_without : Value}
    (a_net_without : PySem.W.nsIn K mainGlobals "net_without" = some (some (.ref f_net_without))) (l_net_without : K.lookup f_net_without = some ⟨oc_net_without, od_net_without, .func (PySem.W.fnOf "net_without" "net_without" (defArgs s_net_without) (defBody s_net_without) (defScope s_net_without) .none kV_net_without dc_net_without pm_net_without an_net_without cd_net_without ct_net_without), sl_net_without⟩) (c_net_without : PySem.W.codeIn K cd_net_without "net_without" = true) (k_net_without : PySem.W.keepIn K (.ref f_net_without) = true)
    {f_moved_place : Addr} {od_moved_place an_moved_place : Option Addr} {sl_moved_place : Array (Option Value)} {oc_moved_place kV_moved_place dc_moved_place pm_moved_place cd_moved_place ct_moved_place : Value}
    (a_moved_place : PySem.W.nsIn K mainGlobals "moved_place" = some (some (.ref f_moved_place))) (l_moved_place : K.lookup f_moved_place = some ⟨oc_moved_place, od_moved_place, .func (PySem.W.fnOf "moved_place" "moved_place" (defArgs s_moved_place) (defBody s_moved_place) (defScope s_moved_place) .none kV_moved_place dc_moved_place pm_moved_place an_moved_place cd_moved_place ct_moved_place), sl_moved_place⟩) (c_moved_place : PySem.W.codeIn K cd_moved_place "moved_place" = true) (k_moved_place : PySem.W.keepIn K (.ref f_moved_place) = true)
    {f_net_together : Addr} {od_net_together an_net_together : Option Addr} {sl_net_together : Array (Option Value)} {oc_net_together kV_net_together dc_net_together pm_net_together cd_net_together ct_net_together : Value}
    (a_net_together : PySem.W.nsIn K mainGlobals "net_together" = some (some (.ref f_net_together))) (l_net_together : K.lookup f_net_together = some ⟨oc_net_together, od_net_together, .func (PySem.W.fnOf "net_together" "net_together" (defArgs s_net_together) (defBody s_net_together) (defScope s_net_together) .none kV_net_together dc_net_together pm_net_together an_net_together cd_net_together ct_net_together), sl_net_together⟩) (c_net_together : PySem.W.codeIn K cd_net_together "net_together" = true) (k_net_together : PySem.W.keepIn K (.ref f_net_together) = true)
    {f_first_row : Addr} {od_first_row an_first_row : Option Addr} {sl_first_row : Array (Option Value)} {oc_first_row kV_first_row dc_first_row pm_first_row cd_first_row ct_first_row : Value}
    (a_first_row : PySem.W.nsIn K mainGlobals "first_row" = some (some (.ref f_first_row))) (l_first_row : K.lookup f_first_row = some ⟨oc_first_row, od_first_row, .func (PySem.W.fnOf "first_row" "first_row" (defArgs s_first_row) (defBody s_first_row) (defScope s_first_row) .none kV_first_row dc_first_row pm_first_row an_first_row cd_first_row ct_first_row), sl_first_row⟩) (c_first_row : PySem.W.codeIn K cd_first_row "first_row" = true) (k_first_row : PySem.W.keepIn K (.ref f_first_row) = true)
    {f_swept : Addr} {od_swept an_swept : Option Addr} {sl_swept : Array (Option Value)} {oc_swept kV_swept dc_swept pm_swept cd_swept ct_swept : Value}
    (a_swept : PySem.W.nsIn K mainGlobals "swept" = some (some (.ref f_swept))) (l_swept : K.lookup f_swept = some ⟨oc_swept, od_swept, .func (PySem.W.fnOf "swept" "swept" (defArgs s_swept) (defBody s_swept) (defScope s_swept) .none kV_swept dc_swept pm_swept an_swept cd_swept ct_swept), sl_swept⟩) (c_swept : PySem.W.codeIn K cd_swept "swept" = true) (k_swept : PySem.W.keepIn K (.ref f_swept) = true)
    {f_worth_of : Addr} {od_worth_of an_worth_of : Option Addr} {sl_worth_of : Array (Option Value)} {oc_worth_of kV_worth_of dc_worth_of pm_worth_of cd_worth_of ct_worth_of : Value}
    (a_worth_of : PySem.W.nsIn K mainGlobals "worth_of" = some (some (.ref f_worth_of))) (l_worth_of : K.lookup f_worth_of = some ⟨oc_worth_of, od_worth_of, .func (PySem.W.fnOf "worth_of" "worth_of" (defArgs s_worth_of) (defBody s_worth_of) (defScope s_worth_of) .none kV_worth_of dc_worth_of pm_worth_of an_worth_of cd_worth_of ct_worth_of), sl_worth_of⟩) (c_worth_of : PySem.W.codeIn K cd_worth_of "worth_of" = true) (k_worth_of : PySem.W.keepIn K (.ref f_worth_of) = true)
    {f_between : Addr} {od_between an_between : Option Addr} {sl_between : Array (Option Value)} {oc_between kV_between dc_between pm_between cd_between ct_between : Value}
    (a_between : PySem.W.nsIn K mainGlobals "between" = some (some (.ref f_between))) (l_between : K.lookup f_between = some ⟨oc_between, od_between, .func (PySem.W.fnOf "between" "between" (defArgs s_between) (defBody s_between) (defScope s_between) .none kV_between dc_between pm_between an_between cd_between ct_between), sl_between⟩) (c_between : PySem.W.codeIn K cd_between "between" = true) (k_between : PySem.W.keepIn K (.ref f_between) = true)
    {f_row_at : Addr} {od_row_at an_row_at : Option Addr} {sl_row_at : Array (Option Value)} {oc_row_at kV_row_at dc_row_at pm_row_at cd_row_at ct_row_at : Value}
    (a_row_at : PySem.W.nsIn K mainGlobals "row_at" = some (some (.ref f_row_at))) (l_row_at : K.lookup f_row_at = some ⟨oc_row_at, od_row_at, .func (PySem.W.fnOf "row_at" "row_at" (defArgs s_row_at) (defBody s_row_at) (defScope s_row_at) .none kV_row_at dc_row_at pm_row_at an_row_at cd_row_at ct_row_at), sl_row_at⟩) (c_row_at : PySem.W.codeIn K cd_row_at "row_at" = true) (k_row_at : PySem.W.keepIn K (.ref f_row_at) = true)
    {f_table_of : Addr} {od_table_of an_table_of : Option Addr} {sl_table_of : Array (Option Value)} {oc_table_of kV_table_of dc_table_of pm_table_of cd_table_of ct_table_of : Value}
    (a_table_of : PySem.W.nsIn K mainGlobals "table_of" = some (some (.ref f_table_of))) (l_table_of : K.lookup f_table_of = some ⟨oc_table_of, od_table_of, .func (PySem.W.fnOf "table_of" "table_of" (defArgs s_table_of) (defBody s_table_of) (defScope s_table_of) .none kV_table_of dc_table_of pm_table_of an_table_of cd_table_of ct_table_of), sl_table_of⟩) (c_table_of : PySem.W.codeIn K cd_table_of "table_of" = true) (k_table_of : PySem.W.keepIn K (.ref f_table_of) = true)
    {f_tally : Addr} {od_tally an_tally : Option Addr} {sl_tally : Array (Option Value)} {oc_tally kV_tally dc_tally pm_tally cd_tally ct_tally : Value}
    (a_tally : PySem.W.nsIn K mainGlobals "tally" = some (some (.ref f_tally))) (l_tally : K.lookup f_tally = some ⟨oc_tally, od_tally, .func (PySem.W.fnOf "tally" "tally" (defArgs s_tally) (defBody s_tally) (defScope s_tally) .none kV_tally dc_tally pm_tally an_tally cd_tally ct_tally), sl_tally⟩) (c_tally : PySem.W.codeIn K cd_tally "tally" = true) (k_tally : PySem.W.keepIn K (.ref f_tally) = true)
    {f_is_rising : Addr} {od_is_rising an_is_rising : Option Addr} {sl_is_rising : Array (Option Value)} {oc_is_rising kV_is_rising dc_is_rising pm_is_rising cd_is_rising ct_is_rising : Value}
    (a_is_rising : PySem.W.nsIn K mainGlobals "is_rising" = some (some (.ref f_is_rising))) (l_is_rising : K.lookup f_is_rising = some ⟨oc_is_rising, od_is_rising, .func (PySem.W.fnOf "is_rising" "is_rising" (defArgs s_is_rising) (defBody s_is_rising) (defScope s_is_rising) .none kV_is_rising dc_is_rising pm_is_rising an_is_rising cd_is_rising ct_is_rising), sl_is_rising⟩) (c_is_rising : PySem.W.codeIn K cd_is_rising "is_rising" = true) (k_is_rising : PySem.W.keepIn K (.ref f_is_rising) = true)
    {f_is_hanging : Addr} {od_is_hanging an_is_hanging : Option Addr} {sl_is_hanging : Array (Option Value)} {oc_is_hanging kV_is_hanging dc_is_hanging pm_is_hanging cd_is_hanging ct_is_hanging : Value}
    (a_is_hanging : PySem.W.nsIn K mainGlobals "is_hanging" = some (some (.ref f_is_hanging))) (l_is_hanging : K.lookup f_is_hanging = some ⟨oc_is_hanging, od_is_hanging, .func (PySem.W.fnOf "is_hanging" "is_hanging" (defArgs s_is_hanging) (defBody s_is_hanging) (defScope s_is_hanging) .none kV_is_hanging dc_is_hanging pm_is_hanging an_is_hanging cd_is_hanging ct_is_hanging), sl_is_hanging⟩) (c_is_hanging : PySem.W.codeIn K cd_is_hanging "is_hanging" = true) (k_is_hanging : PySem.W.keepIn K (.ref f_is_hanging) = true)
    {f_is_open : Addr} {od_is_open an_is_open : Option Addr} {sl_is_open : Array (Option Value)} {oc_is_open kV_is_open dc_is_open pm_is_open cd_is_open ct_is_open : Value}
    (a_is_open : PySem.W.nsIn K mainGlobals "is_open" = some (some (.ref f_is_open))) (l_is_open : K.lookup f_is_open = some ⟨oc_is_open, od_is_open, .func (PySem.W.fnOf "is_open" "is_open" (defArgs s_is_open) (defBody s_is_open) (defScope s_is_open) .none kV_is_open dc_is_open pm_is_open an_is_open cd_is_open ct_is_open), sl_is_open⟩) (c_is_open : PySem.W.codeIn K cd_is_open "is_open" = true) (k_is_open : PySem.W.keepIn K (.ref f_is_open) = true)
    {f_led_on : Addr} {od_led_on an_led_on : Option Addr} {sl_led_on : Array (Option Value)} {oc_led_on kV_led_on dc_led_on pm_led_on cd_led_on ct_led_on : Value}
    (a_led_on : PySem.W.nsIn K mainGlobals "led_on" = some (some (.ref f_led_on))) (l_led_on : K.lookup f_led_on = some ⟨oc_led_on, od_led_on, .func (PySem.W.fnOf "led_on" "led_on" (defArgs s_led_on) (defBody s_led_on) (defScope s_led_on) .none kV_led_on dc_led_on pm_led_on an_led_on cd_led_on ct_led_on), sl_led_on⟩) (c_led_on : PySem.W.codeIn K cd_led_on "led_on" = true) (k_led_on : PySem.W.keepIn K (.ref f_led_on) = true)
    {f_all_hangings : Addr} {od_all_hangings an_all_hangings : Option Addr} {sl_all_hangings : Array (Option Value)} {oc_all_hangings kV_all_hangings dc_all_hangings pm_all_hangings cd_all_hangings ct_all_hangings : Value}
    (a_all_hangings : PySem.W.nsIn K mainGlobals "all_hangings" = some (some (.ref f_all_hangings))) (l_all_hangings : K.lookup f_all_hangings = some ⟨oc_all_hangings, od_all_hangings, .func (PySem.W.fnOf "all_hangings" "all_hangings" (defArgs s_all_hangings) (defBody s_all_hangings) (defScope s_all_hangings) .none kV_all_hangings dc_all_hangings pm_all_hangings an_all_hangings cd_all_hangings ct_all_hangings), sl_all_hangings⟩) (c_all_hangings : PySem.W.codeIn K cd_all_hangings "all_hangings" = true) (k_all_hangings : PySem.W.keepIn K (.ref f_all_hangings) = true)
    {f_goings_on : Addr} {od_goings_on an_goings_on : Option Addr} {sl_goings_on : Array (Option Value)} {oc_goings_on kV_goings_on dc_goings_on pm_goings_on cd_goings_on ct_goings_on : Value}
    (a_goings_on : PySem.W.nsIn K mainGlobals "goings_on" = some (some (.ref f_goings_on))) (l_goings_on : K.lookup f_goings_on = some ⟨oc_goings_on, od_goings_on, .func (PySem.W.fnOf "goings_on" "goings_on" (defArgs s_goings_on) (defBody s_goings_on) (defScope s_goings_on) .none kV_goings_on dc_goings_on pm_goings_on an_goings_on cd_goings_on ct_goings_on), sl_goings_on⟩) (c_goings_on : PySem.W.codeIn K cd_goings_on "goings_on" = true) (k_goings_on : PySem.W.keepIn K (.ref f_goings_on) = true)
    {f_with_tie : Addr} {od_with_tie an_with_tie : Option Addr} {sl_with_tie : Array (Option Value)} {oc_with_tie kV_with_tie dc_with_tie pm_with_tie cd_with_tie ct_with_tie : Value}
    (a_with_tie : PySem.W.nsIn K mainGlobals "with_tie" = some (some (.ref f_with_tie))) (l_with_tie : K.lookup f_with_tie = some ⟨oc_with_tie, od_with_tie, .func (PySem.W.fnOf "with_tie" "with_tie" (defArgs s_with_tie) (defBody s_with_tie) (defScope s_with_tie) .none kV_with_tie dc_with_tie pm_with_tie an_with_tie cd_with_tie ct_with_tie), sl_with_tie⟩) (c_with_tie : PySem.W.codeIn K cd_with_tie "with_tie" = true) (k_with_tie : PySem.W.keepIn K (.ref f_with_tie) = true)
    {f_hanging_of : Addr} {od_hanging_of an_hanging_of : Option Addr} {sl_hanging_of : Array (Option Value)} {oc_hanging_of kV_hanging_of dc_hanging_of pm_hanging_of cd_hanging_of ct_hanging_of : Value}
    (a_hanging_of : PySem.W.nsIn K mainGlobals "hanging_of" = some (some (.ref f_hanging_of))) (l_hanging_of : K.lookup f_hanging_of = some ⟨oc_hanging_of, od_hanging_of, .func (PySem.W.fnOf "hanging_of" "hanging_of" (defArgs s_hanging_of) (defBody s_hanging_of) (defScope s_hanging_of) .none kV_hanging_of dc_hanging_of pm_hanging_of an_hanging_of cd_hanging_of ct_hanging_of), sl_hanging_of⟩) (c_hanging_of : PySem.W.codeIn K cd_hanging_of "hanging_of" = true) (k_hanging_of : PySem.W.keepIn K (.ref f_hanging_of) = true)
    {f_number_of : Addr} {od_number_of an_number_of : Option Addr} {sl_number_of : Array (Option Value)} {oc_number_of kV_number_of dc_number_of pm_number_of cd_number_of ct_number_of : Value}
    (a_number_of : PySem.W.nsIn K mainGlobals "number_of" = some (some (.ref f_number_of))) (l_number_of : K.lookup f_number_of = some ⟨oc_number_of, od_number_of, .func (PySem.W.fnOf "number_of" "number_of" (defArgs s_number_of) (defBody s_number_of) (defScope s_number_of) .none kV_number_of dc_number_of pm_number_of an_number_of cd_number_of ct_number_of), sl_number_of⟩) (c_number_of : PySem.W.codeIn K cd_number_of "number_of" = true) (k_number_of : PySem.W.keepIn K (.ref f_number_of) = true)
    {f_share_of : Addr} {od_share_of an_share_of : Option Addr} {sl_share_of : Array (Option Value)} {oc_share_of kV_share_of dc_share_of pm_share_of cd_share_of ct_share_of : Value}
    (a_share_of : PySem.W.nsIn K mainGlobals "share_of" = some (some (.ref f_share_of))) (l_share_of : K.lookup f_share_of = some ⟨oc_share_of, od_share_of, .func (PySem.W.fnOf "share_of" "share_of" (defArgs s_share_of) (defBody s_share_of) (defScope s_share_of) .none kV_share_of dc_share_of pm_share_of an_share_of cd_share_of ct_share_of), sl_share_of⟩) (c_share_of : PySem.W.codeIn K cd_share_of "share_of" = true) (k_share_of : PySem.W.keepIn K (.ref f_share_of) = true)
    {f_standing : Addr} {od_standing an_standing : Option Addr} {sl_standing : Array (Option Value)} {oc_standing kV_standing dc_standing pm_standing cd_standing ct_standing : Value}
    (a_standing : PySem.W.nsIn K mainGlobals "standing" = some (some (.ref f_standing))) (l_standing : K.lookup f_standing = some ⟨oc_standing, od_standing, .func (PySem.W.fnOf "standing" "standing" (defArgs s_standing) (defBody s_standing) (defScope s_standing) .none kV_standing dc_standing pm_standing an_standing cd_standing ct_standing), sl_standing⟩) (c_standing : PySem.W.codeIn K cd_standing "standing" = true) (k_standing : PySem.W.keepIn K (.ref f_standing) = true)
    {f_need_hanging : Addr} {od_need_hanging an_need_hanging : Option Addr} {sl_need_hanging : Array (Option Value)} {oc_need_hanging kV_need_hanging dc_need_hanging pm_need_hanging cd_need_hanging ct_need_hanging : Value}
    (a_need_hanging : PySem.W.nsIn K mainGlobals "need_hanging" = some (some (.ref f_need_hanging))) (l_need_hanging : K.lookup f_need_hanging = some ⟨oc_need_hanging, od_need_hanging, .func (PySem.W.fnOf "need_hanging" "need_hanging" (defArgs s_need_hanging) (defBody s_need_hanging) (defScope s_need_hanging) .none kV_need_hanging dc_need_hanging pm_need_hanging an_need_hanging cd_need_hanging ct_need_hanging), sl_need_hanging⟩) (c_need_hanging : PySem.W.codeIn K cd_need_hanging "need_hanging" = true) (k_need_hanging : PySem.W.keepIn K (.ref f_need_hanging) = true)
    {f_nearer : Addr} {od_nearer an_nearer : Option Addr} {sl_nearer : Array (Option Value)} {oc_nearer kV_nearer dc_nearer pm_nearer cd_nearer ct_nearer : Value}
    (a_nearer : PySem.W.nsIn K mainGlobals "nearer" = some (some (.ref f_nearer))) (l_nearer : K.lookup f_nearer = some ⟨oc_nearer, od_nearer, .func (PySem.W.fnOf "nearer" "nearer" (defArgs s_nearer) (defBody s_nearer) (defScope s_nearer) .none kV_nearer dc_nearer pm_nearer an_nearer cd_nearer ct_nearer), sl_nearer⟩) (c_nearer : PySem.W.codeIn K cd_nearer "nearer" = true) (k_nearer : PySem.W.keepIn K (.ref f_nearer) = true)
    {f_exchanges : Addr} {od_exchanges an_exchanges : Option Addr} {sl_exchanges : Array (Option Value)} {oc_exchanges kV_exchanges dc_exchanges pm_exchanges cd_exchanges ct_exchanges : Value}
    (a_exchanges : PySem.W.nsIn K mainGlobals "exchanges" = some (some (.ref f_exchanges))) (l_exchanges : K.lookup f_exchanges = some ⟨oc_exchanges, od_exchanges, .func (PySem.W.fnOf "exchanges" "exchanges" (defArgs s_exchanges) (defBody s_exchanges) (defScope s_exchanges) .none kV_exchanges dc_exchanges pm_exchanges an_exchanges cd_exchanges ct_exchanges), sl_exchanges⟩) (c_exchanges : PySem.W.codeIn K cd_exchanges "exchanges" = true) (k_exchanges : PySem.W.keepIn K (.ref f_exchanges) = true)
    {f__law_cell_at : Addr} {od__law_cell_at an__law_cell_at : Option Addr} {sl__law_cell_at : Array (Option Value)} {oc__law_cell_at kV__law_cell_at dc__law_cell_at pm__law_cell_at cd__law_cell_at ct__law_cell_at : Value}
    (a__law_cell_at : PySem.W.nsIn K mainGlobals "_law_cell_at" = some (some (.ref f__law_cell_at))) (l__law_cell_at : K.lookup f__law_cell_at = some ⟨oc__law_cell_at, od__law_cell_at, .func (PySem.W.fnOf "_law_cell_at" "_law_cell_at" (defArgs s__law_cell_at) (defBody s__law_cell_at) (defScope s__law_cell_at) .none kV__law_cell_at dc__law_cell_at pm__law_cell_at an__law_cell_at cd__law_cell_at ct__law_cell_at), sl__law_cell_at⟩) (c__law_cell_at : PySem.W.codeIn K cd__law_cell_at "_law_cell_at" = true) (k__law_cell_at : PySem.W.keepIn K (.ref f__law_cell_at) = true)
    {f__law_mixed : Addr} {od__law_mixed an__law_mixed : Option Addr} {sl__law_mixed : Array (Option Value)} {oc__law_mixed kV__law_mixed dc__law_mixed pm__law_mixed cd__law_mixed ct__law_mixed : Value}
    (a__law_mixed : PySem.W.nsIn K mainGlobals "_law_mixed" = some (some (.ref f__law_mixed))) (l__law_mixed : K.lookup f__law_mixed = some ⟨oc__law_mixed, od__law_mixed, .func (PySem.W.fnOf "_law_mixed" "_law_mixed" (defArgs s__law_mixed) (defBody s__law_mixed) (defScope s__law_mixed) .none kV__law_mixed dc__law_mixed pm__law_mixed an__law_mixed cd__law_mixed ct__law_mixed), sl__law_mixed⟩) (c__law_mixed : PySem.W.codeIn K cd__law_mixed "_law_mixed" = true) (k__law_mixed : PySem.W.keepIn K (.ref f__law_mixed) = true)
    {f__law_tree : Addr} {od__law_tree an__law_tree : Option Addr} {sl__law_tree : Array (Option Value)} {oc__law_tree kV__law_tree dc__law_tree pm__law_tree cd__law_tree ct__law_tree : Value}
    (a__law_tree : PySem.W.nsIn K mainGlobals "_law_tree" = some (some (.ref f__law_tree))) (l__law_tree : K.lookup f__law_tree = some ⟨oc__law_tree, od__law_tree, .func (PySem.W.fnOf "_law_tree" "_law_tree" (defArgs s__law_tree) (defBody s__law_tree) (defScope s__law_tree) .none kV__law_tree dc__law_tree pm__law_tree an__law_tree cd__law_tree ct__law_tree), sl__law_tree⟩) (c__law_tree : PySem.W.codeIn K cd__law_tree "_law_tree" = true) (k__law_tree : PySem.W.keepIn K (.ref f__law_tree) = true)
    {f__law_net : Addr} {od__law_net an__law_net : Option Addr} {sl__law_net : Array (Option Value)} {oc__law_net kV__law_net dc__law_net pm__law_net cd__law_net ct__law_net : Value}
    (a__law_net : PySem.W.nsIn K mainGlobals "_law_net" = some (some (.ref f__law_net))) (l__law_net : K.lookup f__law_net = some ⟨oc__law_net, od__law_net, .func (PySem.W.fnOf "_law_net" "_law_net" (defArgs s__law_net) (defBody s__law_net) (defScope s__law_net) .none kV__law_net dc__law_net pm__law_net an__law_net cd__law_net ct__law_net), sl__law_net⟩) (c__law_net : PySem.W.codeIn K cd__law_net "_law_net" = true) (k__law_net : PySem.W.keepIn K (.ref f__law_net) = true)
    {f__law_bad_tie : Addr} {od__law_bad_tie an__law_bad_tie : Option Addr} {sl__law_bad_tie : Array (Option Value)} {oc__law_bad_tie kV__law_bad_tie dc__law_bad_tie pm__law_bad_tie cd__law_bad_tie ct__law_bad_tie : Value}
    (a__law_bad_tie : PySem.W.nsIn K mainGlobals "_law_bad_tie" = some (some (.ref f__law_bad_tie))) (l__law_bad_tie : K.lookup f__law_bad_tie = some ⟨oc__law_bad_tie, od__law_bad_tie, .func (PySem.W.fnOf "_law_bad_tie" "_law_bad_tie" (defArgs s__law_bad_tie) (defBody s__law_bad_tie) (defScope s__law_bad_tie) .none kV__law_bad_tie dc__law_bad_tie pm__law_bad_tie an__law_bad_tie cd__law_bad_tie ct__law_bad_tie), sl__law_bad_tie⟩) (c__law_bad_tie : PySem.W.codeIn K cd__law_bad_tie "_law_bad_tie" = true) (k__law_bad_tie : PySem.W.keepIn K (.ref f__law_bad_tie) = true)
    {f__law_spoilt : Addr} {od__law_spoilt an__law_spoilt : Option Addr} {sl__law_spoilt : Array (Option Value)} {oc__law_spoilt kV__law_spoilt dc__law_spoilt pm__law_spoilt cd__law_spoilt ct__law_spoilt : Value}
    (a__law_spoilt : PySem.W.nsIn K mainGlobals "_law_spoilt" = some (some (.ref f__law_spoilt))) (l__law_spoilt : K.lookup f__law_spoilt = some ⟨oc__law_spoilt, od__law_spoilt, .func (PySem.W.fnOf "_law_spoilt" "_law_spoilt" (defArgs s__law_spoilt) (defBody s__law_spoilt) (defScope s__law_spoilt) .none kV__law_spoilt dc__law_spoilt pm__law_spoilt an__law_spoilt cd__law_spoilt ct__law_spoilt), sl__law_spoilt⟩) (c__law_spoilt : PySem.W.codeIn K cd__law_spoilt "_law_spoilt" = true) (k__law_spoilt : PySem.W.keepIn K (.ref f__law_spoilt) = true)
    {f__law_asked : Addr} {od__law_asked an__law_asked : Option Addr} {sl__law_asked : Array (Option Value)} {oc__law_asked kV__law_asked dc__law_asked pm__law_asked cd__law_asked ct__law_asked : Value}
    (a__law_asked : PySem.W.nsIn K mainGlobals "_law_asked" = some (some (.ref f__law_asked))) (l__law_asked : K.lookup f__law_asked = some ⟨oc__law_asked, od__law_asked, .func (PySem.W.fnOf "_law_asked" "_law_asked" (defArgs s__law_asked) (defBody s__law_asked) (defScope s__law_asked) .none kV__law_asked dc__law_asked pm__law_asked an__law_asked cd__law_asked ct__law_asked), sl__law_asked⟩) (c__law_asked : PySem.W.codeIn K cd__law_asked "_law_asked" = true) (k__law_asked : PySem.W.keepIn K (.ref f__law_asked) = true)
    {f__law_refused : Addr} {od__law_refused an__law_refused : Option Addr} {sl__law_refused : Array (Option Value)} {oc__law_refused kV__law_refused dc__law_refused pm__law_refused cd__law_refused ct__law_refused : Value}
    (a__law_refused : PySem.W.nsIn K mainGlobals "_law_refused" = some (some (.ref f__law_refused))) (l__law_refused : K.lookup f__law_refused = some ⟨oc__law_refused, od__law_refused, .func (PySem.W.fnOf "_law_refused" "_law_refused" (defArgs s__law_refused) (defBody s__law_refused) (defScope s__law_refused) .none kV__law_refused dc__law_refused pm__law_refused an__law_refused cd__law_refused ct__law_refused), sl__law_refused⟩) (c__law_refused : PySem.W.codeIn K cd__law_refused "_law_refused" = true) (k__law_refused : PySem.W.keepIn K (.ref f__law_refused) = true)
    {f_law : Addr} {od_law an_law : Option Addr} {sl_law : Array (Option Value)} {oc_law kV_law dc_law pm_law cd_law ct_law : Value}
    (a_law : PySem.W.nsIn K mainGlobals "law" = some (some (.ref f_law))) (l_law : K.lookup f_law = some ⟨oc_law, od_law, .func (PySem.W.fnOf "law" "law" (defArgs s_law) (defBody s_law) (defScope s_law) .none kV_law dc_law pm_law an_law cd_law ct_law), sl_law⟩) (c_law : PySem.W.codeIn K cd_law "law" = true) (k_law : PySem.W.keepIn K (.ref f_law) = true)
    {t_MOST_PLACES : Tok} (q_MOST_PLACES : PySem.W.nsIn K mainGlobals "MOST_PLACES" = some (some (.int 7 t_MOST_PLACES)))
    {t_MOST_TIES : Tok} (q_MOST_TIES : PySem.W.nsIn K mainGlobals "MOST_TIES" = some (some (.int 16 t_MOST_TIES)))
    {C_NetError : Addr} (ac_NetError : PySem.W.nsIn K mainGlobals "NetError" = some (some (.ref C_NetError))) (x_NetError : PySem.W.excIn K C_NetError [.type "ValueError", .type "Exception", .type "BaseException", .type "object"] "ValueError.__new__" = true) (kc_NetError : PySem.W.keepIn K (.ref C_NetError) = true) (bc_NetError : PySem.W.subIn K (.ref C_NetError) (.type "BaseException") = some true) (tc_NetError : PySem.W.typeIn K (.ref C_NetError) = some (.type "type"))
    {C_BadNet : Addr} (ac_BadNet : PySem.W.nsIn K mainGlobals "BadNet" = some (some (.ref C_BadNet))) (x_BadNet : PySem.W.excIn K C_BadNet [.type "ValueError", .type "Exception", .type "BaseException", .type "object"] "ValueError.__new__" = true) (kc_BadNet : PySem.W.keepIn K (.ref C_BadNet) = true) (bc_BadNet : PySem.W.subIn K (.ref C_BadNet) (.type "BaseException") = some true) (tc_BadNet : PySem.W.typeIn K (.ref C_BadNet) = some (.type "type"))
    {C_BadTie : Addr} (ac_BadTie : PySem.W.nsIn K mainGlobals "BadTie" = some (some (.ref C_BadTie))) (x_BadTie : PySem.W.excIn K C_BadTie [.type "ValueError", .type "Exception", .type "BaseException", .type "object"] "ValueError.__new__" = true) (kc_BadTie : PySem.W.keepIn K (.ref C_BadTie) = true) (bc_BadTie : PySem.W.subIn K (.ref C_BadTie) (.type "BaseException") = some true) (tc_BadTie : PySem.W.typeIn K (.ref C_BadTie) = some (.type "type"))
    {C_SelfTie : Addr} (ac_SelfTie : PySem.W.nsIn K mainGlobals "SelfTie" = some (some (.ref C_SelfTie))) (x_SelfTie : PySem.W.excIn K C_SelfTie [.type "ValueError", .type "Exception", .type "BaseException", .type "object"] "ValueError.__new__" = true) (kc_SelfTie : PySem.W.keepIn K (.ref C_SelfTie) = true) (bc_SelfTie : PySem.W.subIn K (.ref C_SelfTie) (.type "BaseException") = some true) (tc_SelfTie : PySem.W.typeIn K (.ref C_SelfTie) = some (.type "type"))
    {C_BadHanging : Addr} (ac_BadHanging : PySem.W.nsIn K mainGlobals "BadHanging" = some (some (.ref C_BadHanging))) (x_BadHanging : PySem.W.excIn K C_BadHanging [.type "ValueError", .type "Exception", .type "BaseException", .type "object"] "ValueError.__new__" = true) (kc_BadHanging : PySem.W.keepIn K (.ref C_BadHanging) = true) (bc_BadHanging : PySem.W.subIn K (.ref C_BadHanging) (.type "BaseException") = some true) (tc_BadHanging : PySem.W.typeIn K (.ref C_BadHanging) = some (.type "type"))
    {C_BadNumber : Addr} (ac_BadNumber : PySem.W.nsIn K mainGlobals "BadNumber" = some (some (.ref C_BadNumber))) (x_BadNumber : PySem.W.excIn K C_BadNumber [.type "ValueError", .type "Exception", .type "BaseException", .type "object"] "ValueError.__new__" = true) (kc_BadNumber : PySem.W.keepIn K (.ref C_BadNumber) = true) (bc_BadNumber : PySem.W.subIn K (.ref C_BadNumber) (.type "BaseException") = some true) (tc_BadNumber : PySem.W.typeIn K (.ref C_BadNumber) = some (.type "type"))
    {C_TooMany : Addr} (ac_TooMany : PySem.W.nsIn K mainGlobals "TooMany" = some (some (.ref C_TooMany))) (x_TooMany : PySem.W.excIn K C_TooMany [.type "ValueError", .type "Exception", .type "BaseException", .type "object"] "ValueError.__new__" = true) (kc_TooMany : PySem.W.keepIn K (.ref C_TooMany) = true) (bc_TooMany : PySem.W.subIn K (.ref C_TooMany) (.type "BaseException") = some true) (tc_TooMany : PySem.W.typeIn K (.ref C_TooMany) = some (.type "type"))
    (en_class : PySem.W.specialIn K (.builtin "object.__class__") "__get__" = some (some (.builtin "getset_descriptor.__get__")))
    (et_class : PySem.W.takesIn K (.builtin "object.__class__") = some true)
    (hC_NetError : PySem.W.hasDictIn K C_NetError = true)
    (hC_BadNet : PySem.W.hasDictIn K C_BadNet = true)
    (eg_BadNet : PySem.W.findIn K (.ref C_BadNet) "__getattribute__" = some (some (.builtin "BaseException.__getattribute__")))
    (ek_BadNet : PySem.W.findIn K (.ref C_BadNet) "__getattr__" = some none)
    (ea_BadNet : PySem.W.findIn K (.ref C_BadNet) "__class__" = some (some (.builtin "object.__class__")))
    (em_BadNet : PySem.W.mroIn K C_BadNet (.type "object") = some true)
    (sv_BadNet : PySem.W.subIn K (.ref C_BadNet) (.type "ValueError") = some true)
    (sb_BadNet_NetError : PySem.W.subIn K (.ref C_BadNet) (.ref C_NetError) = some true)
    (sb_BadNet_BadNet : PySem.W.subIn K (.ref C_BadNet) (.ref C_BadNet) = some true)
    (sb_BadNet_BadTie : PySem.W.subIn K (.ref C_BadNet) (.ref C_BadTie) = some false)
    (sb_BadNet_SelfTie : PySem.W.subIn K (.ref C_BadNet) (.ref C_SelfTie) = some false)
    (sb_BadNet_BadHanging : PySem.W.subIn K (.ref C_BadNet) (.ref C_BadHanging) = some false)
    (sb_BadNet_BadNumber : PySem.W.subIn K (.ref C_BadNet) (.ref C_BadNumber) = some false)
    (sb_BadNet_TooMany : PySem.W.subIn K (.ref C_BadNet) (.ref C_TooMany) = some false)
    (hC_BadTie : PySem.W.hasDictIn K C_BadTie = true)
    (eg_BadTie : PySem.W.findIn K (.ref C_BadTie) "__getattribute__" = some (some (.builtin "BaseException.__getattribute__")))
    (ek_BadTie : PySem.W.findIn K (.ref C_BadTie) "__getattr__" = some none)
    (ea_BadTie : PySem.W.findIn K (.ref C_BadTie) "__class__" = some (some (.builtin "object.__class__")))
    (em_BadTie : PySem.W.mroIn K C_BadTie (.type "object") = some true)
    (sv_BadTie : PySem.W.subIn K (.ref C_BadTie) (.type "ValueError") = some true)
    (sb_BadTie_NetError : PySem.W.subIn K (.ref C_BadTie) (.ref C_NetError) = some true)
    (sb_BadTie_BadNet : PySem.W.subIn K (.ref C_BadTie) (.ref C_BadNet) = some false)
    (sb_BadTie_BadTie : PySem.W.subIn K (.ref C_BadTie) (.ref C_BadTie) = some true)
    (sb_BadTie_SelfTie : PySem.W.subIn K (.ref C_BadTie) (.ref C_SelfTie) = some false)
    (sb_BadTie_BadHanging : PySem.W.subIn K (.ref C_BadTie) (.ref C_BadHanging) = some false)
    (sb_BadTie_BadNumber : PySem.W.subIn K (.ref C_BadTie) (.ref C_BadNumber) = some false)
    (sb_BadTie_TooMany : PySem.W.subIn K (.ref C_BadTie) (.ref C_TooMany) = some false)
    (hC_SelfTie : PySem.W.hasDictIn K C_SelfTie = true)
    (eg_SelfTie : PySem.W.findIn K (.ref C_SelfTie) "__getattribute__" = some (some (.builtin "BaseException.__getattribute__")))
    (ek_SelfTie : PySem.W.findIn K (.ref C_SelfTie) "__getattr__" = some none)
    (ea_SelfTie : PySem.W.findIn K (.ref C_SelfTie) "__class__" = some (some (.builtin "object.__class__")))
    (em_SelfTie : PySem.W.mroIn K C_SelfTie (.type "object") = some true)
    (sv_SelfTie : PySem.W.subIn K (.ref C_SelfTie) (.type "ValueError") = some true)
    (sb_SelfTie_NetError : PySem.W.subIn K (.ref C_SelfTie) (.ref C_NetError) = some true)
    (sb_SelfTie_BadNet : PySem.W.subIn K (.ref C_SelfTie) (.ref C_BadNet) = some false)
    (sb_SelfTie_BadTie : PySem.W.subIn K (.ref C_SelfTie) (.ref C_BadTie) = some false)
    (sb_SelfTie_SelfTie : PySem.W.subIn K (.ref C_SelfTie) (.ref C_SelfTie) = some true)
    (sb_SelfTie_BadHanging : PySem.W.subIn K (.ref C_SelfTie) (.ref C_BadHanging) = some false)
    (sb_SelfTie_BadNumber : PySem.W.subIn K (.ref C_SelfTie) (.ref C_BadNumber) = some false)
    (sb_SelfTie_TooMany : PySem.W.subIn K (.ref C_SelfTie) (.ref C_TooMany) = some false)
    (hC_BadHanging : PySem.W.hasDictIn K C_BadHanging = true)
    (eg_BadHanging : PySem.W.findIn K (.ref C_BadHanging) "__getattribute__" = some (some (.builtin "BaseException.__getattribute__")))
    (ek_BadHanging : PySem.W.findIn K (.ref C_BadHanging) "__getattr__" = some none)
    (ea_BadHanging : PySem.W.findIn K (.ref C_BadHanging) "__class__" = some (some (.builtin "object.__class__")))
    (em_BadHanging : PySem.W.mroIn K C_BadHanging (.type "object") = some true)
    (sv_BadHanging : PySem.W.subIn K (.ref C_BadHanging) (.type "ValueError") = some true)
    (sb_BadHanging_NetError : PySem.W.subIn K (.ref C_BadHanging) (.ref C_NetError) = some true)
    (sb_BadHanging_BadNet : PySem.W.subIn K (.ref C_BadHanging) (.ref C_BadNet) = some false)
    (sb_BadHanging_BadTie : PySem.W.subIn K (.ref C_BadHanging) (.ref C_BadTie) = some false)
    (sb_BadHanging_SelfTie : PySem.W.subIn K (.ref C_BadHanging) (.ref C_SelfTie) = some false)
    (sb_BadHanging_BadHanging : PySem.W.subIn K (.ref C_BadHanging) (.ref C_BadHanging) = some true)
    (sb_BadHanging_BadNumber : PySem.W.subIn K (.ref C_BadHanging) (.ref C_BadNumber) = some false)
    (sb_BadHanging_TooMany : PySem.W.subIn K (.ref C_BadHanging) (.ref C_TooMany) = some false)
    (hC_BadNumber : PySem.W.hasDictIn K C_BadNumber = true)
    (eg_BadNumber : PySem.W.findIn K (.ref C_BadNumber) "__getattribute__" = some (some (.builtin "BaseException.__getattribute__")))
    (ek_BadNumber : PySem.W.findIn K (.ref C_BadNumber) "__getattr__" = some none)
    (ea_BadNumber : PySem.W.findIn K (.ref C_BadNumber) "__class__" = some (some (.builtin "object.__class__")))
    (em_BadNumber : PySem.W.mroIn K C_BadNumber (.type "object") = some true)
    (sv_BadNumber : PySem.W.subIn K (.ref C_BadNumber) (.type "ValueError") = some true)
    (sb_BadNumber_NetError : PySem.W.subIn K (.ref C_BadNumber) (.ref C_NetError) = some true)
    (sb_BadNumber_BadNet : PySem.W.subIn K (.ref C_BadNumber) (.ref C_BadNet) = some false)
    (sb_BadNumber_BadTie : PySem.W.subIn K (.ref C_BadNumber) (.ref C_BadTie) = some false)
    (sb_BadNumber_SelfTie : PySem.W.subIn K (.ref C_BadNumber) (.ref C_SelfTie) = some false)
    (sb_BadNumber_BadHanging : PySem.W.subIn K (.ref C_BadNumber) (.ref C_BadHanging) = some false)
    (sb_BadNumber_BadNumber : PySem.W.subIn K (.ref C_BadNumber) (.ref C_BadNumber) = some true)
    (sb_BadNumber_TooMany : PySem.W.subIn K (.ref C_BadNumber) (.ref C_TooMany) = some false)
    (hC_TooMany : PySem.W.hasDictIn K C_TooMany = true)
    (eg_TooMany : PySem.W.findIn K (.ref C_TooMany) "__getattribute__" = some (some (.builtin "BaseException.__getattribute__")))
    (ek_TooMany : PySem.W.findIn K (.ref C_TooMany) "__getattr__" = some none)
    (ea_TooMany : PySem.W.findIn K (.ref C_TooMany) "__class__" = some (some (.builtin "object.__class__")))
    (em_TooMany : PySem.W.mroIn K C_TooMany (.type "object") = some true)
    (sv_TooMany : PySem.W.subIn K (.ref C_TooMany) (.type "ValueError") = some true)
    (sb_TooMany_NetError : PySem.W.subIn K (.ref C_TooMany) (.ref C_NetError) = some true)
    (sb_TooMany_BadNet : PySem.W.subIn K (.ref C_TooMany) (.ref C_BadNet) = some false)
    (sb_TooMany_BadTie : PySem.W.subIn K (.ref C_TooMany) (.ref C_BadTie) = some false)
    (sb_TooMany_SelfTie : PySem.W.subIn K (.ref C_TooMany) (.ref C_SelfTie) = some false)
    (sb_TooMany_BadHanging : PySem.W.subIn K (.ref C_TooMany) (.ref C_BadHanging) = some false)
    (sb_TooMany_BadNumber : PySem.W.subIn K (.ref C_TooMany) (.ref C_BadNumber) = some false)
    (sb_TooMany_TooMany : PySem.W.subIn K (.ref C_TooMany) (.ref C_TooMany) = some true)
    (z_ValueError : PySem.W.nsIn K mainGlobals "ValueError" = some none)
    (z_all : PySem.W.nsIn K mainGlobals "all" = some none)
    (z_bool : PySem.W.nsIn K mainGlobals "bool" = some none)
    (z_int : PySem.W.nsIn K mainGlobals "int" = some none)
    (z_isinstance : PySem.W.nsIn K mainGlobals "isinstance" = some none)
    (z_len : PySem.W.nsIn K mainGlobals "len" = some none)
    (z_list : PySem.W.nsIn K mainGlobals "list" = some none)
    (z_max : PySem.W.nsIn K mainGlobals "max" = some none)
    (z_min : PySem.W.nsIn K mainGlobals "min" = some none)
    (z_range : PySem.W.nsIn K mainGlobals "range" = some none)
    (z_set : PySem.W.nsIn K mainGlobals "set" = some none)
    (z_sorted : PySem.W.nsIn K mainGlobals "sorted" = some none)
    (z_str : PySem.W.nsIn K mainGlobals "str" = some none)
    (z_tuple : PySem.W.nsIn K mainGlobals "tuple" = some none)
    : ∃ fd : FuncData, (∀ (s : Shared) (v : Value), BindsTo s fd ⟨[v], []⟩ [("_law_script", v)]) ∧ FnTop P w K mg fa fd "_law_script" := by
  have e := hfa.symm.trans (PySem.W.mg_of X G a_law)
  cases e
  have F_is_below := fun_mk (st := s_is_below) l_is_below c_is_below k_is_below
  have F_is_tie := fun_mk (st := s_is_tie) l_is_tie c_is_tie k_is_tie
  have F_need_net := fun_mk (st := s_need_net) l_need_net c_need_net k_need_net
  have F_need_tie := fun_mk (st := s_need_tie) l_need_tie c_need_tie k_need_tie
  have F_marks_of := fun_mk (st := s_marks_of) l_marks_of c_marks_of k_marks_of
  have F_parts_of := fun_mk (st := s_parts_of) l_parts_of c_parts_of k_parts_of
  have F_hangs := fun_mk (st := s_hangs) l_hangs c_hangs k_hangs
  have F_net_without := fun_mk (st := s_net_without) l_net_without c_net_without k_net_without
  have F_moved_place := fun_mk (st := s_moved_place) l_moved_place c_moved_place k_moved_place
  have F_net_together := fun_mk (st := s_net_together) l_net_together c_net_together k_net_together
  have F_first_row := fun_mk (st := s_first_row) l_first_row c_first_row k_first_row
  have F_swept := fun_mk (st := s_swept) l_swept c_swept k_swept
  have F_worth_of := fun_mk (st := s_worth_of) l_worth_of c_worth_of k_worth_of
  have F_between := fun_mk (st := s_between) l_between c_between k_between
  have F_row_at := fun_mk (st := s_row_at) l_row_at c_row_at k_row_at
  have F_table_of := fun_mk (st := s_table_of) l_table_of c_table_of k_table_of
  have F_tally := fun_mk (st := s_tally) l_tally c_tally k_tally
  have F_is_rising := fun_mk (st := s_is_rising) l_is_rising c_is_rising k_is_rising
  have F_is_hanging := fun_mk (st := s_is_hanging) l_is_hanging c_is_hanging k_is_hanging
  have F_is_open := fun_mk (st := s_is_open) l_is_open c_is_open k_is_open
  have F_led_on := fun_mk (st := s_led_on) l_led_on c_led_on k_led_on
  have F_all_hangings := fun_mk (st := s_all_hangings) l_all_hangings c_all_hangings k_all_hangings
  have F_goings_on := fun_mk (st := s_goings_on) l_goings_on c_goings_on k_goings_on
  have F_with_tie := fun_mk (st := s_with_tie) l_with_tie c_with_tie k_with_tie
  have F_hanging_of := fun_mk (st := s_hanging_of) l_hanging_of c_hanging_of k_hanging_of
  have F_number_of := fun_mk (st := s_number_of) l_number_of c_number_of k_number_of
  have F_share_of := fun_mk (st := s_share_of) l_share_of c_share_of k_share_of
  have F_standing := fun_mk (st := s_standing) l_standing c_standing k_standing
  have F_need_hanging := fun_mk (st := s_need_hanging) l_need_hanging c_need_hanging k_need_hanging
  have F_nearer := fun_mk (st := s_nearer) l_nearer c_nearer k_nearer
  have F_exchanges := fun_mk (st := s_exchanges) l_exchanges c_exchanges k_exchanges
  have F__law_cell_at := fun_mk (st := s__law_cell_at) l__law_cell_at c__law_cell_at k__law_cell_at
  have F__law_mixed := fun_mk (st := s__law_mixed) l__law_mixed c__law_mixed k__law_mixed
  have F__law_tree := fun_mk (st := s__law_tree) l__law_tree c__law_tree k__law_tree
  have F__law_net := fun_mk (st := s__law_net) l__law_net c__law_net k__law_net
  have F__law_bad_tie := fun_mk (st := s__law_bad_tie) l__law_bad_tie c__law_bad_tie k__law_bad_tie
  have F__law_spoilt := fun_mk (st := s__law_spoilt) l__law_spoilt c__law_spoilt k__law_spoilt
  have F__law_asked := fun_mk (st := s__law_asked) l__law_asked c__law_asked k__law_asked
  have F__law_refused := fun_mk (st := s__law_refused) l__law_refused c__law_refused k__law_refused
  have F_law := fun_mk (st := s_law) l_law c_law k_law
  let T : Tx K mg := {
    cl := fun c => match c with | .net => C_BadNet | .tie => C_BadTie | .self => C_SelfTie | .hang => C_BadHanging | .numb => C_BadNumber | .many => C_TooMany
    cl_BadNet := rfl
    cl_BadTie := rfl
    cl_SelfTie := rfl
    cl_BadHanging := rfl
    cl_BadNumber := rfl
    cl_TooMany := rfl
    n_ValueError := PySem.W.mg_none_of X G z_ValueError
    n_all := PySem.W.mg_none_of X G z_all
    n_bool := PySem.W.mg_none_of X G z_bool
    n_int := PySem.W.mg_none_of X G z_int
    n_isinstance := PySem.W.mg_none_of X G z_isinstance
    n_len := PySem.W.mg_none_of X G z_len
    n_list := PySem.W.mg_none_of X G z_list
    n_max := PySem.W.mg_none_of X G z_max
    n_min := PySem.W.mg_none_of X G z_min
    n_range := PySem.W.mg_none_of X G z_range
    n_set := PySem.W.mg_none_of X G z_set
    n_sorted := PySem.W.mg_none_of X G z_sorted
    n_str := PySem.W.mg_none_of X G z_str
    n_tuple := PySem.W.mg_none_of X G z_tuple
    t_MOST_PLACES := t_MOST_PLACES
    c_MOST_PLACES := PySem.W.mg_of X G q_MOST_PLACES
    t_MOST_TIES := t_MOST_TIES
    c_MOST_TIES := PySem.W.mg_of X G q_MOST_TIES
    C_NetError := C_NetError
    gC_NetError := PySem.W.mg_of X G ac_NetError
    x_NetError := x_NetError
    kC_NetError := kc_NetError
    bC_NetError := bc_NetError
    tC_NetError := tc_NetError
    C_BadNet := C_BadNet
    gC_BadNet := PySem.W.mg_of X G ac_BadNet
    x_BadNet := x_BadNet
    kC_BadNet := kc_BadNet
    bC_BadNet := bc_BadNet
    tC_BadNet := tc_BadNet
    C_BadTie := C_BadTie
    gC_BadTie := PySem.W.mg_of X G ac_BadTie
    x_BadTie := x_BadTie
    kC_BadTie := kc_BadTie
    bC_BadTie := bc_BadTie
    tC_BadTie := tc_BadTie
    C_SelfTie := C_SelfTie
    gC_SelfTie := PySem.W.mg_of X G ac_SelfTie
    x_SelfTie := x_SelfTie
    kC_SelfTie := kc_SelfTie
    bC_SelfTie := bc_SelfTie
    tC_SelfTie := tc_SelfTie
    C_BadHanging := C_BadHanging
    gC_BadHanging := PySem.W.mg_of X G ac_BadHanging
    x_BadHanging := x_BadHanging
    kC_BadHanging := kc_BadHanging
    bC_BadHanging := bc_BadHanging
    tC_BadHanging := tc_BadHanging
    C_BadNumber := C_BadNumber
    gC_BadNumber := PySem.W.mg_of X G ac_BadNumber
    x_BadNumber := x_BadNumber
    kC_BadNumber := kc_BadNumber
    bC_BadNumber := bc_BadNumber
    tC_BadNumber := tc_BadNumber
    C_TooMany := C_TooMany
    gC_TooMany := PySem.W.mg_of X G ac_TooMany
    x_TooMany := x_TooMany
    kC_TooMany := kc_TooMany
    bC_TooMany := bc_TooMany
    tC_TooMany := tc_TooMany
    en_class := en_class
    et_class := et_class
    hC_NetError := hC_NetError
    hC_BadNet := hC_BadNet
    eg_BadNet := eg_BadNet
    ek_BadNet := ek_BadNet
    ea_BadNet := ea_BadNet
    em_BadNet := em_BadNet
    sv_BadNet := sv_BadNet
    sb_BadNet_NetError := sb_BadNet_NetError
    sb_BadNet_BadNet := sb_BadNet_BadNet
    sb_BadNet_BadTie := sb_BadNet_BadTie
    sb_BadNet_SelfTie := sb_BadNet_SelfTie
    sb_BadNet_BadHanging := sb_BadNet_BadHanging
    sb_BadNet_BadNumber := sb_BadNet_BadNumber
    sb_BadNet_TooMany := sb_BadNet_TooMany
    hC_BadTie := hC_BadTie
    eg_BadTie := eg_BadTie
    ek_BadTie := ek_BadTie
    ea_BadTie := ea_BadTie
    em_BadTie := em_BadTie
    sv_BadTie := sv_BadTie
    sb_BadTie_NetError := sb_BadTie_NetError
    sb_BadTie_BadNet := sb_BadTie_BadNet
    sb_BadTie_BadTie := sb_BadTie_BadTie
    sb_BadTie_SelfTie := sb_BadTie_SelfTie
    sb_BadTie_BadHanging := sb_BadTie_BadHanging
    sb_BadTie_BadNumber := sb_BadTie_BadNumber
    sb_BadTie_TooMany := sb_BadTie_TooMany
    hC_SelfTie := hC_SelfTie
    eg_SelfTie := eg_SelfTie
    ek_SelfTie := ek_SelfTie
    ea_SelfTie := ea_SelfTie
    em_SelfTie := em_SelfTie
    sv_SelfTie := sv_SelfTie
    sb_SelfTie_NetError := sb_SelfTie_NetError
    sb_SelfTie_BadNet := sb_SelfTie_BadNet
    sb_SelfTie_BadTie := sb_SelfTie_BadTie
    sb_SelfTie_SelfTie := sb_SelfTie_SelfTie
    sb_SelfTie_BadHanging := sb_SelfTie_BadHanging
    sb_SelfTie_BadNumber := sb_SelfTie_BadNumber
    sb_SelfTie_TooMany := sb_SelfTie_TooMany
    hC_BadHanging := hC_BadHanging
    eg_BadHanging := eg_BadHanging
    ek_BadHanging := ek_BadHanging
    ea_BadHanging := ea_BadHanging
    em_BadHanging := em_BadHanging
    sv_BadHanging := sv_BadHanging
    sb_BadHanging_NetError := sb_BadHanging_NetError
    sb_BadHanging_BadNet := sb_BadHanging_BadNet
    sb_BadHanging_BadTie := sb_BadHanging_BadTie
    sb_BadHanging_SelfTie := sb_BadHanging_SelfTie
    sb_BadHanging_BadHanging := sb_BadHanging_BadHanging
    sb_BadHanging_BadNumber := sb_BadHanging_BadNumber
    sb_BadHanging_TooMany := sb_BadHanging_TooMany
    hC_BadNumber := hC_BadNumber
    eg_BadNumber := eg_BadNumber
    ek_BadNumber := ek_BadNumber
    ea_BadNumber := ea_BadNumber
    em_BadNumber := em_BadNumber
    sv_BadNumber := sv_BadNumber
    sb_BadNumber_NetError := sb_BadNumber_NetError
    sb_BadNumber_BadNet := sb_BadNumber_BadNet
    sb_BadNumber_BadTie := sb_BadNumber_BadTie
    sb_BadNumber_SelfTie := sb_BadNumber_SelfTie
    sb_BadNumber_BadHanging := sb_BadNumber_BadHanging
    sb_BadNumber_BadNumber := sb_BadNumber_BadNumber
    sb_BadNumber_TooMany := sb_BadNumber_TooMany
    hC_TooMany := hC_TooMany
    eg_TooMany := eg_TooMany
    ek_TooMany := ek_TooMany
    ea_TooMany := ea_TooMany
    em_TooMany := em_TooMany
    sv_TooMany := sv_TooMany
    sb_TooMany_NetError := sb_TooMany_NetError
    sb_TooMany_BadNet := sb_TooMany_BadNet
    sb_TooMany_BadTie := sb_TooMany_BadTie
    sb_TooMany_SelfTie := sb_TooMany_SelfTie
    sb_TooMany_BadHanging := sb_TooMany_BadHanging
    sb_TooMany_BadNumber := sb_TooMany_BadNumber
    sb_TooMany_TooMany := sb_TooMany_TooMany
    a_is_below := f_is_below
    d_is_below := _
    F_is_below := F_is_below
    g_is_below := PySem.W.mg_of X G a_is_below
    b_is_below := F_is_below.binds fun _ _ _ _ _ _ us hl => match us, hl with | [_, _], _ => rfl
    a_is_tie := f_is_tie
    d_is_tie := _
    F_is_tie := F_is_tie
    g_is_tie := PySem.W.mg_of X G a_is_tie
    b_is_tie := F_is_tie.binds fun _ _ _ _ _ _ us hl => match us, hl with | [_, _], _ => rfl
    a_need_net := f_need_net
    d_need_net := _
    F_need_net := F_need_net
    g_need_net := PySem.W.mg_of X G a_need_net
    b_need_net := F_need_net.binds fun _ _ _ _ _ _ us hl => match us, hl with | [_, _], _ => rfl
    a_need_tie := f_need_tie
    d_need_tie := _
    F_need_tie := F_need_tie
    g_need_tie := PySem.W.mg_of X G a_need_tie
    b_need_tie := F_need_tie.binds fun _ _ _ _ _ _ us hl => match us, hl with | [_, _], _ => rfl
    a_marks_of := f_marks_of
    d_marks_of := _
    F_marks_of := F_marks_of
    g_marks_of := PySem.W.mg_of X G a_marks_of
    b_marks_of := F_marks_of.binds fun _ _ _ _ _ _ us hl => match us, hl with | [_, _], _ => rfl
    a_parts_of := f_parts_of
    d_parts_of := _
    F_parts_of := F_parts_of
    g_parts_of := PySem.W.mg_of X G a_parts_of
    b_parts_of := F_parts_of.binds fun _ _ _ _ _ _ us hl => match us, hl with | [_, _], _ => rfl
    a_hangs := f_hangs
    d_hangs := _
    F_hangs := F_hangs
    g_hangs := PySem.W.mg_of X G a_hangs
    b_hangs := F_hangs.binds fun _ _ _ _ _ _ us hl => match us, hl with | [_, _], _ => rfl
    a_net_without := f_net_without
    d_net_without := _
    F_net_without := F_net_without
    g_net_without := PySem.W.mg_of X G a_net_without
    b_net_without := F_net_without.binds fun _ _ _ _ _ _ us hl => match us, hl with | [_, _, _], _ => rfl
    a_moved_place := f_moved_place
    d_moved_place := _
    F_moved_place := F_moved_place
    g_moved_place := PySem.W.mg_of X G a_moved_place
    b_moved_place := F_moved_place.binds fun _ _ _ _ _ _ us hl => match us, hl with | [_, _, _], _ => rfl
    a_net_together := f_net_together
    d_net_together := _
    F_net_together := F_net_together
    g_net_together := PySem.W.mg_of X G a_net_together
    b_net_together := F_net_together.binds fun _ _ _ _ _ _ us hl => match us, hl with | [_, _, _], _ => rfl
    a_first_row := f_first_row
    d_first_row := _
    F_first_row := F_first_row
    g_first_row := PySem.W.mg_of X G a_first_row
    b_first_row := F_first_row.binds fun _ _ _ _ _ _ us hl => match us, hl with | [_, _], _ => rfl
    a_swept := f_swept
    d_swept := _
    F_swept := F_swept
    g_swept := PySem.W.mg_of X G a_swept
    b_swept := F_swept.binds fun _ _ _ _ _ _ us hl => match us, hl with | [_, _, _], _ => rfl
    a_worth_of := f_worth_of
    d_worth_of := _
    F_worth_of := F_worth_of
    g_worth_of := PySem.W.mg_of X G a_worth_of
    b_worth_of := F_worth_of.binds fun _ _ _ _ _ _ us hl => match us, hl with | [_], _ => rfl
    a_between := f_between
    d_between := _
    F_between := F_between
    g_between := PySem.W.mg_of X G a_between
    b_between := F_between.binds fun _ _ _ _ _ _ us hl => match us, hl with | [_, _, _], _ => rfl
    a_row_at := f_row_at
    d_row_at := _
    F_row_at := F_row_at
    g_row_at := PySem.W.mg_of X G a_row_at
    b_row_at := F_row_at.binds fun _ _ _ _ _ _ us hl => match us, hl with | [_, _, _], _ => rfl
    a_table_of := f_table_of
    d_table_of := _
    F_table_of := F_table_of
    g_table_of := PySem.W.mg_of X G a_table_of
    b_table_of := F_table_of.binds fun _ _ _ _ _ _ us hl => match us, hl with | [_, _], _ => rfl
    a_tally := f_tally
    d_tally := _
    F_tally := F_tally
    g_tally := PySem.W.mg_of X G a_tally
    b_tally := F_tally.binds fun _ _ _ _ _ _ us hl => match us, hl with | [_, _], _ => rfl
    a_is_rising := f_is_rising
    d_is_rising := _
    F_is_rising := F_is_rising
    g_is_rising := PySem.W.mg_of X G a_is_rising
    b_is_rising := F_is_rising.binds fun _ _ _ _ _ _ us hl => match us, hl with | [_, _], _ => rfl
    a_is_hanging := f_is_hanging
    d_is_hanging := _
    F_is_hanging := F_is_hanging
    g_is_hanging := PySem.W.mg_of X G a_is_hanging
    b_is_hanging := F_is_hanging.binds fun _ _ _ _ _ _ us hl => match us, hl with | [_, _, _], _ => rfl
    a_is_open := f_is_open
    d_is_open := _
    F_is_open := F_is_open
    g_is_open := PySem.W.mg_of X G a_is_open
    b_is_open := F_is_open.binds fun _ _ _ _ _ _ us hl => match us, hl with | [_, _, _, _], _ => rfl
    a_led_on := f_led_on
    d_led_on := _
    F_led_on := F_led_on
    g_led_on := PySem.W.mg_of X G a_led_on
    b_led_on := F_led_on.binds fun _ _ _ _ _ _ us hl => match us, hl with | [_, _, _, _], _ => rfl
    a_all_hangings := f_all_hangings
    d_all_hangings := _
    F_all_hangings := F_all_hangings
    g_all_hangings := PySem.W.mg_of X G a_all_hangings
    b_all_hangings := F_all_hangings.binds fun _ _ _ _ _ _ us hl => match us, hl with | [_, _, _], _ => rfl
    a_goings_on := f_goings_on
    d_goings_on := _
    F_goings_on := F_goings_on
    g_goings_on := PySem.W.mg_of X G a_goings_on
    b_goings_on := F_goings_on.binds fun _ _ _ _ _ _ us hl => match us, hl with | [_, _, _, _], _ => rfl
    a_with_tie := f_with_tie
    d_with_tie := _
    F_with_tie := F_with_tie
    g_with_tie := PySem.W.mg_of X G a_with_tie
    b_with_tie := F_with_tie.binds fun _ _ _ _ _ _ us hl => match us, hl with | [_, _, _, _], _ => rfl
    a_hanging_of := f_hanging_of
    d_hanging_of := _
    F_hanging_of := F_hanging_of
    g_hanging_of := PySem.W.mg_of X G a_hanging_of
    b_hanging_of := F_hanging_of.binds fun _ _ _ _ _ _ us hl => match us, hl with | [_, _, _], _ => rfl
    a_number_of := f_number_of
    d_number_of := _
    F_number_of := F_number_of
    g_number_of := PySem.W.mg_of X G a_number_of
    b_number_of := F_number_of.binds fun _ _ _ _ _ _ us hl => match us, hl with | [_, _, _], _ => rfl
    a_share_of := f_share_of
    d_share_of := _
    F_share_of := F_share_of
    g_share_of := PySem.W.mg_of X G a_share_of
    b_share_of := F_share_of.binds fun _ _ _ _ _ _ us hl => match us, hl with | [_, _, _], _ => rfl
    a_standing := f_standing
    d_standing := _
    F_standing := F_standing
    g_standing := PySem.W.mg_of X G a_standing
    b_standing := F_standing.binds fun _ _ _ _ _ _ us hl => match us, hl with | [_, _], _ => rfl
    a_need_hanging := f_need_hanging
    d_need_hanging := _
    F_need_hanging := F_need_hanging
    g_need_hanging := PySem.W.mg_of X G a_need_hanging
    b_need_hanging := F_need_hanging.binds fun _ _ _ _ _ _ us hl => match us, hl with | [_, _, _], _ => rfl
    a_nearer := f_nearer
    d_nearer := _
    F_nearer := F_nearer
    g_nearer := PySem.W.mg_of X G a_nearer
    b_nearer := F_nearer.binds fun _ _ _ _ _ _ us hl => match us, hl with | [_, _, _, _], _ => rfl
    a_exchanges := f_exchanges
    d_exchanges := _
    F_exchanges := F_exchanges
    g_exchanges := PySem.W.mg_of X G a_exchanges
    b_exchanges := F_exchanges.binds fun _ _ _ _ _ _ us hl => match us, hl with | [_, _, _, _], _ => rfl
    a__law_cell_at := f__law_cell_at
    d__law_cell_at := _
    F__law_cell_at := F__law_cell_at
    g__law_cell_at := PySem.W.mg_of X G a__law_cell_at
    b__law_cell_at := F__law_cell_at.binds fun _ _ _ _ _ _ us hl => match us, hl with | [_, _], _ => rfl
    a__law_mixed := f__law_mixed
    d__law_mixed := _
    F__law_mixed := F__law_mixed
    g__law_mixed := PySem.W.mg_of X G a__law_mixed
    b__law_mixed := F__law_mixed.binds fun _ _ _ _ _ _ us hl => match us, hl with | [_, _], _ => rfl
    a__law_tree := f__law_tree
    d__law_tree := _
    F__law_tree := F__law_tree
    g__law_tree := PySem.W.mg_of X G a__law_tree
    b__law_tree := F__law_tree.binds fun _ _ _ _ _ _ us hl => match us, hl with | [_, _], _ => rfl
    a__law_net := f__law_net
    d__law_net := _
    F__law_net := F__law_net
    g__law_net := PySem.W.mg_of X G a__law_net
    b__law_net := F__law_net.binds fun _ _ _ _ _ _ us hl => match us, hl with | [_, _, _], _ => rfl
    a__law_bad_tie := f__law_bad_tie
    d__law_bad_tie := _
    F__law_bad_tie := F__law_bad_tie
    g__law_bad_tie := PySem.W.mg_of X G a__law_bad_tie
    b__law_bad_tie := F__law_bad_tie.binds fun _ _ _ _ _ _ us hl => match us, hl with | [_, _], _ => rfl
    a__law_spoilt := f__law_spoilt
    d__law_spoilt := _
    F__law_spoilt := F__law_spoilt
    g__law_spoilt := PySem.W.mg_of X G a__law_spoilt
    b__law_spoilt := F__law_spoilt.binds fun _ _ _ _ _ _ us hl => match us, hl with | [_, _, _, _], _ => rfl
    a__law_asked := f__law_asked
    d__law_asked := _
    F__law_asked := F__law_asked
    g__law_asked := PySem.W.mg_of X G a__law_asked
    b__law_asked := F__law_asked.binds fun _ _ _ _ _ _ us hl => match us, hl with | [_, _, _, _], _ => rfl
    a__law_refused := f__law_refused
    d__law_refused := _
    F__law_refused := F__law_refused
    g__law_refused := PySem.W.mg_of X G a__law_refused
    b__law_refused := F__law_refused.binds fun _ _ _ _ _ _ us hl => match us, hl with | [_, _, _, _], _ => rfl
    a_law := fa
    d_law := _
    F_law := F_law
    g_law := PySem.W.mg_of X G a_law
    b_law := F_law.binds fun _ _ _ _ _ _ us hl => match us, hl with | [_], _ => rfl }
  exact ⟨PySem.W.fnOf "law" "law" (defArgs s_law) (defBody s_law) (defScope s_law) .none kV_law dc_law pm_law an_law cd_law ct_law, fun s v => .of_eq rfl, ok_law T⟩
end Tr
open PySem PySem.W PyProof.Rows
set_option maxHeartbeats 0 in
theorem PySem.Challenge.cw_treetally_k02_what_is_no_net_holds : PySem.Challenge.rw_treetally_k02_what_is_no_net.Holds := by
  w_on; o_law; k_head; (case hw => w_witness2)
  k_fill
  refine DL.walk_top (l := PySem.Challenge.rw_treetally_k02_what_is_no_net) (x := "_law_script") rfl rfl (fun w h Y => PySem.W.kIn_of Y) ?F
  case F =>
    intro w mg fa h KX G hmg
    refine' Tr.all_mk KX G hmg ?a_is_below ?l_is_below ?c_is_below ?k_is_below ?a_is_tie ?l_is_tie ?c_is_tie ?k_is_tie ?a_need_net ?l_need_net ?c_need_net ?k_need_net ?a_need_tie ?l_need_tie ?c_need_tie ?k_need_tie ?a_marks_of ?l_marks_of ?c_marks_of ?k_marks_of ?a_parts_of ?l_parts_of ?c_parts_of ?k_parts_of ?a_hangs ?l_hangs ?c_hangs ?k_hangs ?a_net_without ?l_net_without ?c_net_without ?k_net_without ?a_moved_place ?l_moved_place ?c_moved_place ?k_moved_place ?a_net_together ?l_net_together ?c_net_together ?k_net_together ?a_first_row ?l_first_row ?c_first_row ?k_first_row ?a_swept ?l_swept ?c_swept ?k_swept ?a_worth_of ?l_worth_of ?c_worth_of ?k_worth_of ?a_between ?l_between ?c_between ?k_between ?a_row_at ?l_row_at ?c_row_at ?k_row_at ?a_table_of ?l_table_of ?c_table_of ?k_table_of ?a_tally ?l_tally ?c_tally ?k_tally ?a_is_rising ?l_is_rising ?c_is_rising ?k_is_rising ?a_is_hanging ?l_is_hanging ?c_is_hanging ?k_is_hanging ?a_is_open ?l_is_open ?c_is_open ?k_is_open ?a_led_on ?l_led_on ?c_led_on ?k_led_on ?a_all_hangings ?l_all_hangings ?c_all_hangings ?k_all_hangings ?a_goings_on ?l_goings_on ?c_goings_on ?k_goings_on ?a_with_tie ?l_with_tie ?c_with_tie ?k_with_tie ?a_hanging_of ?l_hanging_of ?c_hanging_of ?k_hanging_of ?a_number_of ?l_number_of ?c_number_of ?k_number_of ?a_share_of ?l_share_of ?c_share_of ?k_share_of ?a_standing ?l_standing ?c_standing ?k_standing ?a_need_hanging ?l_need_hanging ?c_need_hanging ?k_need_hanging ?a_nearer ?l_nearer ?c_nearer ?k_nearer ?a_exchanges ?l_exchanges ?c_exchanges ?k_exchanges ?a__law_cell_at ?l__law_cell_at ?c__law_cell_at ?k__law_cell_at ?a__law_mixed ?l__law_mixed ?c__law_mixed ?k__law_mixed ?a__law_tree ?l__law_tree ?c__law_tree ?k__law_tree ?a__law_net ?l__law_net ?c__law_net ?k__law_net ?a__law_bad_tie ?l__law_bad_tie ?c__law_bad_tie ?k__law_bad_tie ?a__law_spoilt ?l__law_spoilt ?c__law_spoilt ?k__law_spoilt ?a__law_asked ?l__law_asked ?c__law_asked ?k__law_asked ?a__law_refused ?l__law_refused ?c__law_refused ?k__law_refused ?a_law ?l_law ?c_law ?k_law ?q_MOST_PLACES ?q_MOST_TIES ?ac_NetError ?x_NetError ?kc_NetError ?bc_NetError ?tc_NetError ?ac_BadNet ?x_BadNet ?kc_BadNet ?bc_BadNet ?tc_BadNet ?ac_BadTie ?x_BadTie ?kc_BadTie ?bc_BadTie ?tc_BadTie ?ac_SelfTie ?x_SelfTie ?kc_SelfTie ?bc_SelfTie ?tc_SelfTie ?ac_BadHanging ?x_BadHanging ?kc_BadHanging ?bc_BadHanging ?tc_BadHanging ?ac_BadNumber ?x_BadNumber ?kc_BadNumber ?bc_BadNumber ?tc_BadNumber ?ac_TooMany ?x_TooMany ?kc_TooMany ?bc_TooMany ?tc_TooMany ?en_class ?et_class ?hC_NetError ?hC_BadNet ?eg_BadNet ?ek_BadNet ?ea_BadNet ?em_BadNet ?sv_BadNet ?sb_BadNet_NetError ?sb_BadNet_BadNet ?sb_BadNet_BadTie ?sb_BadNet_SelfTie ?sb_BadNet_BadHanging ?sb_BadNet_BadNumber ?sb_BadNet_TooMany ?hC_BadTie ?eg_BadTie ?ek_BadTie ?ea_BadTie ?em_BadTie ?sv_BadTie ?sb_BadTie_NetError ?sb_BadTie_BadNet ?sb_BadTie_BadTie ?sb_BadTie_SelfTie ?sb_BadTie_BadHanging ?sb_BadTie_BadNumber ?sb_BadTie_TooMany ?hC_SelfTie ?eg_SelfTie ?ek_SelfTie ?ea_SelfTie ?em_SelfTie ?sv_SelfTie ?sb_SelfTie_NetError ?sb_SelfTie_BadNet ?sb_SelfTie_BadTie ?sb_SelfTie_SelfTie ?sb_SelfTie_BadHanging ?sb_SelfTie_BadNumber ?sb_SelfTie_TooMany ?hC_BadHanging ?eg_BadHanging ?ek_BadHanging ?ea_BadHanging ?em_BadHanging ?sv_BadHanging ?sb_BadHanging_NetError ?sb_BadHanging_BadNet ?sb_BadHanging_BadTie ?sb_BadHanging_SelfTie ?sb_BadHanging_BadHanging ?sb_BadHanging_BadNumber ?sb_BadHanging_TooMany ?hC_BadNumber ?eg_BadNumber ?ek_BadNumber ?ea_BadNumber ?em_BadNumber ?sv_BadNumber ?sb_BadNumber_NetError ?sb_BadNumber_BadNet ?sb_BadNumber_BadTie ?sb_BadNumber_SelfTie ?sb_BadNumber_BadHanging ?sb_BadNumber_BadNumber ?sb_BadNumber_TooMany ?hC_TooMany ?eg_TooMany ?ek_TooMany ?ea_TooMany ?em_TooMany ?sv_TooMany ?sb_TooMany_NetError ?sb_TooMany_BadNet ?sb_TooMany_BadTie ?sb_TooMany_SelfTie ?sb_TooMany_BadHanging ?sb_TooMany_BadNumber ?sb_TooMany_TooMany ?z_ValueError ?z_all ?z_bool ?z_int ?z_isinstance ?z_len ?z_list ?z_max ?z_min ?z_range ?z_set ?z_sorted ?z_str ?z_tuple
    (case a_is_below => k_is)
    (case l_is_below => k_is)
    (case c_is_below => k_is)
    (case k_is_below => k_is)
    (case a_is_tie => k_is)
    (case l_is_tie => k_is)
    (case c_is_tie => k_is)
    (case k_is_tie => k_is)
    (case a_need_net => k_is)
    (case l_need_net => k_is)
    (case c_need_net => k_is)
    (case k_need_net => k_is)
    (case a_need_tie => k_is)
    (case l_need_tie => k_is)
    (case c_need_tie => k_is)
    (case k_need_tie => k_is)
    (case a_marks_of => k_is)
    (case l_marks_of => k_is)
    (case c_marks_of => k_is)
    (case k_marks_of => k_is)
    (case a_parts_of => k_is)
    (case l_parts_of => k_is)
    (case c_parts_of => k_is)
    (case k_parts_of => k_is)
    (case a_hangs => k_is)
    (case l_hangs => k_is)
    (case c_hangs => k_is)
    (case k_hangs => k_is)
    (case a_net_without => k_is)
    (case l_net_without => k_is)
    (case c_net_without => k_is)
    (case k_net_without => k_is)
    (case a_moved_place => k_is)
    (case l_moved_place => k_is)
    (case c_moved_place => k_is)
    (case k_moved_place => k_is)
    (case a_net_together => k_is)
    (case l_net_together => k_is)
    (case c_net_together => k_is)
    (case k_net_together => k_is)
    (case a_first_row => k_is)
    (case l_first_row => k_is)
    (case c_first_row => k_is)
    (case k_first_row => k_is)
    (case a_swept => k_is)
    (case l_swept => k_is)
    (case c_swept => k_is)
    (case k_swept => k_is)
    (case a_worth_of => k_is)
    (case l_worth_of => k_is)
    (case c_worth_of => k_is)
    (case k_worth_of => k_is)
    (case a_between => k_is)
    (case l_between => k_is)
    (case c_between => k_is)
    (case k_between => k_is)
    (case a_row_at => k_is)
    (case l_row_at => k_is)
    (case c_row_at => k_is)
    (case k_row_at => k_is)
    (case a_table_of => k_is)
    (case l_table_of => k_is)
    (case c_table_of => k_is)
    (case k_table_of => k_is)
    (case a_tally => k_is)
    (case l_tally => k_is)
    (case c_tally => k_is)
    (case k_tally => k_is)
    (case a_is_rising => k_is)
    (case l_is_rising => k_is)
    (case c_is_rising => k_is)
    (case k_is_rising => k_is)
    (case a_is_hanging => k_is)
    (case l_is_hanging => k_is)
    (case c_is_hanging => k_is)
    (case k_is_hanging => k_is)
    (case a_is_open => k_is)
    (case l_is_open => k_is)
    (case c_is_open => k_is)
    (case k_is_open => k_is)
    (case a_led_on => k_is)
    (case l_led_on => k_is)
    (case c_led_on => k_is)
    (case k_led_on => k_is)
    (case a_all_hangings => k_is)
    (case l_all_hangings => k_is)
    (case c_all_hangings => k_is)
    (case k_all_hangings => k_is)
    (case a_goings_on => k_is)
    (case l_goings_on => k_is)
    (case c_goings_on => k_is)
    (case k_goings_on => k_is)
    (case a_with_tie => k_is)
    (case l_with_tie => k_is)
    (case c_with_tie => k_is)
    (case k_with_tie => k_is)
    (case a_hanging_of => k_is)
    (case l_hanging_of => k_is)
    (case c_hanging_of => k_is)
    (case k_hanging_of => k_is)
    (case a_number_of => k_is)
    (case l_number_of => k_is)
    (case c_number_of => k_is)
    (case k_number_of => k_is)
    (case a_share_of => k_is)
    (case l_share_of => k_is)
    (case c_share_of => k_is)
    (case k_share_of => k_is)
    (case a_standing => k_is)
    (case l_standing => k_is)
    (case c_standing => k_is)
    (case k_standing => k_is)
    (case a_need_hanging => k_is)
    (case l_need_hanging => k_is)
    (case c_need_hanging => k_is)
    (case k_need_hanging => k_is)
    (case a_nearer => k_is)
    (case l_nearer => k_is)
    (case c_nearer => k_is)
    (case k_nearer => k_is)
    (case a_exchanges => k_is)
    (case l_exchanges => k_is)
    (case c_exchanges => k_is)
    (case k_exchanges => k_is)
    (case a__law_cell_at => k_is)
    (case l__law_cell_at => k_is)
    (case c__law_cell_at => k_is)
    (case k__law_cell_at => k_is)
    (case a__law_mixed => k_is)
    (case l__law_mixed => k_is)
    (case c__law_mixed => k_is)
    (case k__law_mixed => k_is)
    (case a__law_tree => k_is)
    (case l__law_tree => k_is)
    (case c__law_tree => k_is)
    (case k__law_tree => k_is)
    (case a__law_net => k_is)
    (case l__law_net => k_is)
    (case c__law_net => k_is)
    (case k__law_net => k_is)
    (case a__law_bad_tie => k_is)
    (case l__law_bad_tie => k_is)
    (case c__law_bad_tie => k_is)
    (case k__law_bad_tie => k_is)
    (case a__law_spoilt => k_is)
    (case l__law_spoilt => k_is)
    (case c__law_spoilt => k_is)
    (case k__law_spoilt => k_is)
    (case a__law_asked => k_is)
    (case l__law_asked => k_is)
    (case c__law_asked => k_is)
    (case k__law_asked => k_is)
    (case a__law_refused => k_is)
    (case l__law_refused => k_is)
    (case c__law_refused => k_is)
    (case k__law_refused => k_is)
    (case a_law => k_is)
    (case l_law => k_is)
    (case c_law => k_is)
    (case k_law => k_is)
    (case q_MOST_PLACES => k_is)
    (case q_MOST_TIES => k_is)
    (case ac_NetError => k_is)
    (case x_NetError => k_exc)
    (case kc_NetError => k_is)
    (case bc_NetError => k_is)
    (case tc_NetError => k_is)
    (case ac_BadNet => k_is)
    (case x_BadNet => k_exc)
    (case kc_BadNet => k_is)
    (case bc_BadNet => k_is)
    (case tc_BadNet => k_is)
    (case ac_BadTie => k_is)
    (case x_BadTie => k_exc)
    (case kc_BadTie => k_is)
    (case bc_BadTie => k_is)
    (case tc_BadTie => k_is)
    (case ac_SelfTie => k_is)
    (case x_SelfTie => k_exc)
    (case kc_SelfTie => k_is)
    (case bc_SelfTie => k_is)
    (case tc_SelfTie => k_is)
    (case ac_BadHanging => k_is)
    (case x_BadHanging => k_exc)
    (case kc_BadHanging => k_is)
    (case bc_BadHanging => k_is)
    (case tc_BadHanging => k_is)
    (case ac_BadNumber => k_is)
    (case x_BadNumber => k_exc)
    (case kc_BadNumber => k_is)
    (case bc_BadNumber => k_is)
    (case tc_BadNumber => k_is)
    (case ac_TooMany => k_is)
    (case x_TooMany => k_exc)
    (case kc_TooMany => k_is)
    (case bc_TooMany => k_is)
    (case tc_TooMany => k_is)
    (case en_class => k_is)
    (case et_class => k_is)
    (case hC_NetError => k_is)
    (case hC_BadNet => k_is)
    (case eg_BadNet => k_is)
    (case ek_BadNet => k_is)
    (case ea_BadNet => k_is)
    (case em_BadNet => k_is)
    (case sv_BadNet => k_is)
    (case sb_BadNet_NetError => k_is)
    (case sb_BadNet_BadNet => k_is)
    (case sb_BadNet_BadTie => k_is)
    (case sb_BadNet_SelfTie => k_is)
    (case sb_BadNet_BadHanging => k_is)
    (case sb_BadNet_BadNumber => k_is)
    (case sb_BadNet_TooMany => k_is)
    (case hC_BadTie => k_is)
    (case eg_BadTie => k_is)
    (case ek_BadTie => k_is)
    (case ea_BadTie => k_is)
    (case em_BadTie => k_is)
    (case sv_BadTie => k_is)
    (case sb_BadTie_NetError => k_is)
    (case sb_BadTie_BadNet => k_is)
    (case sb_BadTie_BadTie => k_is)
    (case sb_BadTie_SelfTie => k_is)
    (case sb_BadTie_BadHanging => k_is)
    (case sb_BadTie_BadNumber => k_is)
    (case sb_BadTie_TooMany => k_is)
    (case hC_SelfTie => k_is)
    (case eg_SelfTie => k_is)
    (case ek_SelfTie => k_is)
    (case ea_SelfTie => k_is)
    (case em_SelfTie => k_is)
    (case sv_SelfTie => k_is)
    (case sb_SelfTie_NetError => k_is)
    (case sb_SelfTie_BadNet => k_is)
    (case sb_SelfTie_BadTie => k_is)
    (case sb_SelfTie_SelfTie => k_is)
    (case sb_SelfTie_BadHanging => k_is)
    (case sb_SelfTie_BadNumber => k_is)
    (case sb_SelfTie_TooMany => k_is)
    (case hC_BadHanging => k_is)
    (case eg_BadHanging => k_is)
    (case ek_BadHanging => k_is)
    (case ea_BadHanging => k_is)
    (case em_BadHanging => k_is)
    (case sv_BadHanging => k_is)
    (case sb_BadHanging_NetError => k_is)
    (case sb_BadHanging_BadNet => k_is)
    (case sb_BadHanging_BadTie => k_is)
    (case sb_BadHanging_SelfTie => k_is)
    (case sb_BadHanging_BadHanging => k_is)
    (case sb_BadHanging_BadNumber => k_is)
    (case sb_BadHanging_TooMany => k_is)
    (case hC_BadNumber => k_is)
    (case eg_BadNumber => k_is)
    (case ek_BadNumber => k_is)
    (case ea_BadNumber => k_is)
    (case em_BadNumber => k_is)
    (case sv_BadNumber => k_is)
    (case sb_BadNumber_NetError => k_is)
    (case sb_BadNumber_BadNet => k_is)
    (case sb_BadNumber_BadTie => k_is)
    (case sb_BadNumber_SelfTie => k_is)
    (case sb_BadNumber_BadHanging => k_is)
    (case sb_BadNumber_BadNumber => k_is)
    (case sb_BadNumber_TooMany => k_is)
    (case hC_TooMany => k_is)
    (case eg_TooMany => k_is)
    (case ek_TooMany => k_is)
    (case ea_TooMany => k_is)
    (case em_TooMany => k_is)
    (case sv_TooMany => k_is)
    (case sb_TooMany_NetError => k_is)
    (case sb_TooMany_BadNet => k_is)
    (case sb_TooMany_BadTie => k_is)
    (case sb_TooMany_SelfTie => k_is)
    (case sb_TooMany_BadHanging => k_is)
    (case sb_TooMany_BadNumber => k_is)
    (case sb_TooMany_TooMany => k_is)
    (case z_ValueError => k_is)
    (case z_all => k_is)
    (case z_bool => k_is)
    (case z_int => k_is)
    (case z_isinstance => k_is)
    (case z_len => k_is)
    (case z_list => k_is)
    (case z_max => k_is)
    (case z_min => k_is)
    (case z_range => k_is)
    (case z_set => k_is)
    (case z_sorted => k_is)
    (case z_str => k_is)
    (case z_tuple => k_is)
