import PyProof.Rows.All
import Wide.All
import OpenK.AllK
import Wide.FinOn
import PyProof.EqAt
import PyProof.EqKinds
import PyProof.TupleCall
import KE.KStateDown
import Lean
import HandS.ForMost
import HandS.ForExc
import HandS.Defaults
import HandS.HeadHook1
import HandS.HeadHook2
import HandS.ExcIs
import HandS.IsInst
import PySem.Challenge.RW_fourfold_k92_whole_painters
import HandS.Head0
import HandS.Head1
import HandS.Head2
import KE.GoesMore
import KE.GoesEnum
import PyProof.EnumMake
import PyProof.Draws
import HandS.TupMul
import HandS.TupAny
import HandS.Zip
import HandS.Conv
import HandS.HeadEnd
set_option Elab.async false
set_option linter.all false
set_option maxRecDepth 100000
namespace Ff
open PySem
/-! ### trees -/
inductive T where
  | leaf (i : Int)
  | node (a b c d : T)
def T.d : T → PyData
  | .leaf i => .int i
  | .node a b c d => .tuple [a.d, b.d, c.d, d.d]
def T.ok : Nat → T → Prop
  | _, .leaf i => 0 ≤ i ∧ i ≤ 9
  | 0, .node _ _ _ _ => False
  | n + 1, .node a b c d => T.ok n a ∧ T.ok n b ∧ T.ok n c ∧ T.ok n d
theorem ok_leaf {n : Nat} {i : Int} : T.ok n (.leaf i) ↔ 0 ≤ i ∧ i ≤ 9 := by cases n <;> rfl
theorem ok_node {n : Nat} {a b c d : T} : T.ok (n + 1) (.node a b c d) ↔ (T.ok n a ∧ T.ok n b ∧ T.ok n c ∧ T.ok n d) := Iff.rfl
def sel {α : Type} : Nat → α → α → α → α → α
  | 0, a, _, _, _ => a
  | 1, _, b, _, _ => b
  | 2, _, _, c, _ => c
  | _, _, _, _, d => d
theorem sel_map {α β : Type} (f : α → β) : ∀ (k : Nat) (a b c d : α), f (sel k a b c d) = sel k (f a) (f b) (f c) (f d)
  | 0, _, _, _, _ => rfl
  | 1, _, _, _, _ => rfl
  | 2, _, _, _, _ => rfl
  | _ + 3, _, _, _, _ => rfl
theorem sel_all {α : Type} {P : α → Prop} : ∀ (k : Nat) {a b c d : α}, P a → P b → P c → P d → P (sel k a b c d)
  | 0, _, _, _, _, h, _, _, _ => h
  | 1, _, _, _, _, _, h, _, _ => h
  | 2, _, _, _, _, _, _, h, _ => h
  | _ + 3, _, _, _, _, _, _, _, h => h
/-- a quarter -/
def q : T → Nat → T
  | .leaf i, _ => .leaf i
  | .node a b c d, k => sel k a b c d
theorem q_ok {n : Nat} {t : T} (h : T.ok (n + 1) t) (k : Nat) : T.ok n (q t k) := by
  cases t with
  | leaf i => exact ok_leaf.mpr (ok_leaf.mp h)
  | node a b c d => exact sel_all (P := T.ok n) k h.1 h.2.1 h.2.2.1 h.2.2.2
theorem ok_up {n : Nat} : ∀ {t : T}, T.ok n t → T.ok (n + 1) t := by
  induction n with
  | zero =>
    intro t h
    cases t with
    | leaf i => exact ok_leaf.mpr (ok_leaf.mp h)
    | node a b c d => exact h.elim
  | succ n ih =>
    intro t h
    cases t with
    | leaf i => exact ok_leaf.mpr (ok_leaf.mp h)
    | node a b c d => exact ⟨ih h.1, ih h.2.1, ih h.2.2.1, ih h.2.2.2⟩
theorem ok_le {n m : Nat} (hnm : n ≤ m) {t : T} (h : T.ok n t) : T.ok m t := by
  induction hnm with
  | refl => exact h
  | step _ ih => exact ok_up ih
def isL (i : Int) : T → Bool
  | .leaf j => j == i
  | .node _ _ _ _ => false
theorem isL_iff {i : Int} {t : T} : isL i t = true ↔ t = .leaf i := by
  cases t with
  | leaf j => exact ⟨fun h => by rw [beq_iff_eq.mp h], fun h => by cases h; exact beq_self_eq_true _⟩
  | node a b c d => exact ⟨fun h => (Bool.false_ne_true h).elim, fun h => by cases h⟩
/-- the least tree of four quarters -/
def four (a b c d : T) : T := match a with
  | .leaf i => if (isL i b && (isL i c && isL i d)) = true then .leaf i else .node a b c d
  | .node _ _ _ _ => .node a b c d
theorem four_ok {n : Nat} {a b c d : T} (ha : T.ok n a) (hb : T.ok n b) (hc : T.ok n c) (hd : T.ok n d) : T.ok (n + 1) (four a b c d) := by
  cases a with
  | leaf i =>
    unfold four
    dsimp only
    split
    · exact ok_leaf.mpr (ok_leaf.mp ha)
    · exact ⟨ha, hb, hc, hd⟩
  | node a1 a2 a3 a4 => exact ⟨ha, hb, hc, hd⟩
def lean : T → T
  | .leaf i => .leaf i
  | .node a b c d => four (lean a) (lean b) (lean c) (lean d)
theorem lean_ok : ∀ {n : Nat} {t : T}, T.ok n t → T.ok n (lean t)
  | _, .leaf i, h => h
  | 0, .node _ _ _ _, h => h.elim
  | n + 1, .node a b c d, h => four_ok (lean_ok h.1) (lean_ok h.2.1) (lean_ok h.2.2.1) (lean_ok h.2.2.2)
theorem four_leaf {a b c d : T} {i : Int} : four a b c d = .leaf i ↔ (a = .leaf i ∧ b = .leaf i ∧ c = .leaf i ∧ d = .leaf i) := by
  cases a with
  | leaf j =>
    unfold four
    dsimp only
    split
    · rename_i h
      obtain ⟨h1, h2⟩ := Bool.and_eq_true_iff.mp h
      obtain ⟨h3, h4⟩ := Bool.and_eq_true_iff.mp h2
      constructor
      · intro e
        cases e
        exact ⟨rfl, isL_iff.mp h1, isL_iff.mp h3, isL_iff.mp h4⟩
      · rintro ⟨e, _⟩
        exact e
    · rename_i h
      constructor
      · intro e
        cases e
      · rintro ⟨e1, e2, e3, e4⟩
        cases e1
        exact (h (Bool.and_eq_true_iff.mpr ⟨isL_iff.mpr e2, Bool.and_eq_true_iff.mpr ⟨isL_iff.mpr e3, isL_iff.mpr e4⟩⟩)).elim
  | node a1 a2 a3 a4 =>
    constructor
    · intro e
      cases e
    · rintro ⟨e, _⟩
      cases e
theorem four_node {a b c d : T} (h : ∀ i, ¬ (a = .leaf i ∧ b = .leaf i ∧ c = .leaf i ∧ d = .leaf i)) : four a b c d = .node a b c d := by
  cases a with
  | leaf j =>
    unfold four
    dsimp only
    split
    · rename_i h2
      obtain ⟨h1, h2⟩ := Bool.and_eq_true_iff.mp h2
      obtain ⟨h3, h4⟩ := Bool.and_eq_true_iff.mp h2
      exact (h j ⟨rfl, isL_iff.mp h1, isL_iff.mp h3, isL_iff.mp h4⟩).elim
    · rfl
  | node a1 a2 a3 a4 => rfl
/-! ### boxes -/
def mx (i j : Int) : Int := if j > i then j else i
def mn (i j : Int) : Int := if j < i then j else i
/-- what a box and a square have in common -/
def ovl (l t w h left top side : Int) : Option (Int × Int × Int × Int) :=
  if mx l left < mn (l + w) (left + side) ∧ mx t top < mn (t + h) (top + side) then some (mx l left, mn (l + w) (left + side), mx t top, mn (t + h) (top + side)) else none
theorem ovl_one {l t w h left top : Int} {r : Int × Int × Int × Int} (e : ovl l t w h left top 1 = some r) : r = (left, left + 1, top, top + 1) := by
  unfold ovl at e
  split at e
  · rename_i c
    cases e
    obtain ⟨c1, c2⟩ := c
    have a1 : mx l left ≥ left := by unfold mx; split <;> omega
    have a2 : mn (l + w) (left + 1) ≤ left + 1 := by unfold mn; split <;> omega
    have a3 : mx t top ≥ top := by unfold mx; split <;> omega
    have a4 : mn (t + h) (top + 1) ≤ top + 1 := by unfold mn; split <;> omega
    have b1 : mx l left = left := by omega
    have b2 : mn (l + w) (left + 1) = left + 1 := by omega
    have b3 : mx t top = top := by omega
    have b4 : mn (t + h) (top + 1) = top + 1 := by omega
    rw [b1, b2, b3, b4]
  · cases e
def fill (l t w h wo : Int) : Nat → T → Int → Int → T
  | 0, tr, left, top => match ovl l t w h left top 1 with
    | none => tr
    | some _ => .leaf wo
  | n + 1, tr, left, top => match ovl l t w h left top (2 ^ (n + 1)) with
    | none => tr
    | some r => if r = (left, left + 2 ^ (n + 1), top, top + 2 ^ (n + 1)) then .leaf wo else
      four (fill l t w h wo n (q tr 0) left top) (fill l t w h wo n (q tr 1) (left + 2 ^ n) top) (fill l t w h wo n (q tr 2) left (top + 2 ^ n)) (fill l t w h wo n (q tr 3) (left + 2 ^ n) (top + 2 ^ n))
theorem fill_ok {l t w h wo : Int} (h0 : 0 ≤ wo) (h9 : wo ≤ 9) : ∀ {n : Nat} {tr : T} {left top : Int}, T.ok n tr → T.ok n (fill l t w h wo n tr left top)
  | 0, tr, left, top, hk => by
    unfold fill
    split
    · exact hk
    · exact ok_leaf.mpr ⟨h0, h9⟩
  | n + 1, tr, left, top, hk => by
    unfold fill
    split
    · exact hk
    · split
      · exact ok_leaf.mpr ⟨h0, h9⟩
      · exact four_ok (fill_ok h0 h9 (q_ok hk 0)) (fill_ok h0 h9 (q_ok hk 1)) (fill_ok h0 h9 (q_ok hk 2)) (fill_ok h0 h9 (q_ok hk 3))
/-! ### ways -/
def move (o : Nat → Nat) : T → T
  | .leaf i => .leaf i
  | .node a b c d => .node (sel (o 0) (move o a) (move o b) (move o c) (move o d)) (sel (o 1) (move o a) (move o b) (move o c) (move o d)) (sel (o 2) (move o a) (move o b) (move o c) (move o d)) (sel (o 3) (move o a) (move o b) (move o c) (move o d))
theorem move_ok (o : Nat → Nat) : ∀ {n : Nat} {t : T}, T.ok n t → T.ok n (move o t)
  | _, .leaf i, h => h
  | 0, .node _ _ _ _, h => h.elim
  | n + 1, .node a b c d, h =>
    have ha := move_ok o h.1
    have hb := move_ok o h.2.1
    have hc := move_ok o h.2.2.1
    have hd := move_ok o h.2.2.2
    ⟨sel_all (P := T.ok n) _ ha hb hc hd, sel_all (P := T.ok n) _ ha hb hc hd, sel_all (P := T.ok n) _ ha hb hc hd, sel_all (P := T.ok n) _ ha hb hc hd⟩
def oTurn (k : Nat) : Nat := sel k 2 0 3 1
def oMirr (k : Nat) : Nat := sel k 1 0 3 2
def turned (t : T) : T := move oTurn (lean t)
def mirrored (t : T) : T := move oMirr (lean t)
def iter (f : T → T) : Nat → T → T
  | 0, t => t
  | k + 1, t => f (iter f k t)
def byWay (way : Int) (t : T) : T := iter turned (way % 4).toNat (if 4 ≤ way then mirrored (lean t) else lean t)
theorem turned_ok {n : Nat} {t : T} (h : T.ok n t) : T.ok n (turned t) := move_ok _ (lean_ok h)
theorem mirrored_ok {n : Nat} {t : T} (h : T.ok n t) : T.ok n (mirrored t) := move_ok _ (lean_ok h)
theorem iter_ok {n : Nat} {t : T} (h : T.ok n t) : ∀ k, T.ok n (iter turned k t)
  | 0 => h
  | k + 1 => turned_ok (iter_ok h k)
theorem byWay_ok {n : Nat} {t : T} (way : Int) (h : T.ok n t) : T.ok n (byWay way t) := by
  unfold byWay
  split
  · exact iter_ok (mirrored_ok (lean_ok h)) _
  · exact iter_ok (lean_ok h) _
/-! ### rows -/
def wor : T → Int
  | .leaf i => i
  | .node _ _ _ _ => 0
def join2 (a b : List (List Int)) : List (List Int) := List.zipWith (fun x y => x ++ y) a b
def rows : Nat → T → List (List Int)
  | 0, t => [[wor t]]
  | n + 1, t => join2 (rows n (q t 0)) (rows n (q t 1)) ++ join2 (rows n (q t 2)) (rows n (q t 3))
theorem join2_length (a b : List (List Int)) : (join2 a b).length = min a.length b.length := List.length_zipWith
theorem rows_length : ∀ (n : Nat) (t : T), (rows n t).length = 2 ^ n
  | 0, _ => rfl
  | n + 1, t => by
    unfold rows
    rw [List.length_append, join2_length, join2_length, rows_length n, rows_length n, rows_length n, rows_length n, Nat.min_self, Nat.pow_succ]
    omega
theorem join2_get {a b : List (List Int)} {i : Nat} {r : List Int} (h : (join2 a b)[i]? = some r) : ∃ x y, a[i]? = some x ∧ b[i]? = some y ∧ r = x ++ y := by
  unfold join2 at h
  rw [List.getElem?_zipWith] at h
  cases ha : a[i]? with
  | none => rw [ha] at h; cases h
  | some x =>
    cases hb : b[i]? with
    | none => rw [ha, hb] at h; cases h
    | some y =>
      rw [ha, hb] at h
      exact ⟨x, y, rfl, rfl, (Option.some.inj h).symm⟩
theorem join2_mem {a b : List (List Int)} {r : List Int} (h : r ∈ join2 a b) : ∃ x y, x ∈ a ∧ y ∈ b ∧ r = x ++ y := by
  obtain ⟨i, hi⟩ := List.getElem?_of_mem h
  obtain ⟨x, y, h1, h2, h3⟩ := join2_get hi
  exact ⟨x, y, List.mem_of_getElem? h1, List.mem_of_getElem? h2, h3⟩
theorem rows_wide : ∀ (n : Nat) (t : T) (r : List Int), r ∈ rows n t → r.length = 2 ^ n
  | 0, t, r, h => by
    have e : r = [wor t] := by simpa [rows] using h
    rw [e]
    rfl
  | n + 1, t, r, h => by
    unfold rows at h
    rw [Nat.pow_succ]
    rcases List.mem_append.mp h with h | h
    · obtain ⟨x, y, hx, hy, e⟩ := join2_mem h
      rw [e, List.length_append, rows_wide n _ x hx, rows_wide n _ y hy]
      omega
    · obtain ⟨x, y, hx, hy, e⟩ := join2_mem h
      rw [e, List.length_append, rows_wide n _ x hx, rows_wide n _ y hy]
      omega
/-- all worths of some rows are i -/
def allIs (i : Int) (rs : List (List Int)) : Prop := ∀ r ∈ rs, ∀ x ∈ r, x = i
theorem allIs_app {i : Int} {a b : List (List Int)} : allIs i (a ++ b) ↔ (allIs i a ∧ allIs i b) := by
  constructor
  · intro h
    exact ⟨fun r hr => h r (List.mem_append_left _ hr), fun r hr => h r (List.mem_append_right _ hr)⟩
  · rintro ⟨h1, h2⟩ r hr
    rcases List.mem_append.mp hr with h | h
    · exact h1 r h
    · exact h2 r h
theorem join2_cons (x y : List Int) (a b : List (List Int)) : join2 (x :: a) (y :: b) = (x ++ y) :: join2 a b := rfl
theorem allIs_join {i : Int} : ∀ {a b : List (List Int)}, a.length = b.length → (allIs i (join2 a b) ↔ (allIs i a ∧ allIs i b))
  | [], [], _ => ⟨fun _ => ⟨fun _ hr => (nomatch hr), fun _ hr => (nomatch hr)⟩, fun _ _ hr => (nomatch hr)⟩
  | [], _ :: _, h => nomatch h
  | _ :: _, [], h => nomatch h
  | x :: a, y :: b, h => by
    have ih := allIs_join (i := i) (a := a) (b := b) (Nat.succ.inj h)
    rw [join2_cons]
    constructor
    · intro z
      have z1 : allIs i (join2 a b) := fun r hr => z r (List.mem_cons_of_mem _ hr)
      have z2 := z (x ++ y) List.mem_cons_self
      obtain ⟨z3, z4⟩ := ih.mp z1
      refine ⟨fun r hr => ?_, fun r hr => ?_⟩
      · rcases List.mem_cons.mp hr with e | e
        · rw [e]; exact fun v hv => z2 v (List.mem_append_left _ hv)
        · exact z3 r e
      · rcases List.mem_cons.mp hr with e | e
        · rw [e]; exact fun v hv => z2 v (List.mem_append_right _ hv)
        · exact z4 r e
    · rintro ⟨z1, z2⟩ r hr
      rcases List.mem_cons.mp hr with e | e
      · rw [e]
        intro v hv
        rcases List.mem_append.mp hv with hv | hv
        · exact z1 x List.mem_cons_self v hv
        · exact z2 y List.mem_cons_self v hv
      · exact ih.mpr ⟨fun r hr => z1 r (List.mem_cons_of_mem _ hr), fun r hr => z2 r (List.mem_cons_of_mem _ hr)⟩ r e
theorem lean_q_leaf {t : T} {i : Int} (n : Nat) (h : T.ok (n + 1) t) : lean t = .leaf i ↔ (lean (q t 0) = .leaf i ∧ lean (q t 1) = .leaf i ∧ lean (q t 2) = .leaf i ∧ lean (q t 3) = .leaf i) := by
  cases t with
  | leaf j => exact ⟨fun e => ⟨e, e, e, e⟩, fun e => e.1⟩
  | node a b c d => exact four_leaf
theorem allIs_rows {i : Int} : ∀ {n : Nat} {t : T}, T.ok n t → (allIs i (rows n t) ↔ lean t = .leaf i)
  | 0, .leaf j, _ => by
    constructor
    · intro h
      have e := h [j] (by simp [rows, wor]) j (by simp)
      rw [e]
      rfl
    · intro e r hr x hx
      have e1 : r = [j] := by simpa [rows, wor] using hr
      rw [e1] at hx
      have e2 : x = j := by simpa using hx
      cases e
      exact e2
  | 0, .node _ _ _ _, h => h.elim
  | n + 1, t, h => by
    have l : ∀ a b, (rows n (q t a)).length = (rows n (q t b)).length := fun a b => by rw [rows_length, rows_length]
    unfold rows
    rw [allIs_app, allIs_join (l 0 1), allIs_join (l 2 3), allIs_rows (q_ok h 0), allIs_rows (q_ok h 1), allIs_rows (q_ok h 2), allIs_rows (q_ok h 3), lean_q_leaf n h]
    exact ⟨fun z => ⟨z.1.1, z.1.2, z.2.1, z.2.2⟩, fun z => ⟨⟨z.1, z.2.1⟩, z.2.2.1, z.2.2.2⟩⟩
def part (k : Nat) (rs : List (List Int)) (left top : Nat) : List (List Int) := ((rs.drop top).take k).map fun r => (r.drop left).take k
theorem join2_left {k : Nat} : ∀ {a b : List (List Int)}, a.length = b.length → (∀ r ∈ a, r.length = k) → (join2 a b).map (fun r => (r.drop 0).take k) = a
  | [], [], _, _ => rfl
  | [], _ :: _, h, _ => nomatch h
  | _ :: _, [], h, _ => nomatch h
  | x :: a, y :: b, h, hk => by
    rw [join2_cons, List.map_cons, join2_left (Nat.succ.inj h) (fun r hr => hk r (List.mem_cons_of_mem _ hr))]
    have e := hk x List.mem_cons_self
    rw [List.drop_zero, ← e, List.take_left']
    rfl
theorem join2_right {k : Nat} : ∀ {a b : List (List Int)}, a.length = b.length → (∀ r ∈ a, r.length = k) → (∀ r ∈ b, r.length = k) → (join2 a b).map (fun r => (r.drop k).take k) = b
  | [], [], _, _, _ => rfl
  | [], _ :: _, h, _, _ => nomatch h
  | _ :: _, [], h, _, _ => nomatch h
  | x :: a, y :: b, h, hk, hk2 => by
    rw [join2_cons, List.map_cons, join2_right (Nat.succ.inj h) (fun r hr => hk r (List.mem_cons_of_mem _ hr)) (fun r hr => hk2 r (List.mem_cons_of_mem _ hr))]
    have e := hk x List.mem_cons_self
    have e2 := hk2 y List.mem_cons_self
    rw [List.drop_left' e, List.take_of_length_le (Nat.le_of_eq e2)]
theorem part_rows {n : Nat} (t : T) : part (2 ^ n) (rows (n + 1) t) 0 0 = rows n (q t 0) ∧ part (2 ^ n) (rows (n + 1) t) (2 ^ n) 0 = rows n (q t 1) ∧
    part (2 ^ n) (rows (n + 1) t) 0 (2 ^ n) = rows n (q t 2) ∧ part (2 ^ n) (rows (n + 1) t) (2 ^ n) (2 ^ n) = rows n (q t 3) := by
  have l : ∀ a b, (rows n (q t a)).length = (rows n (q t b)).length := fun a b => by rw [rows_length, rows_length]
  have l1 : (join2 (rows n (q t 0)) (rows n (q t 1))).length = 2 ^ n := by rw [join2_length, rows_length, rows_length, Nat.min_self]
  have l2 : (join2 (rows n (q t 2)) (rows n (q t 3))).length = 2 ^ n := by rw [join2_length, rows_length, rows_length, Nat.min_self]
  have e1 : ((rows (n + 1) t).drop 0).take (2 ^ n) = join2 (rows n (q t 0)) (rows n (q t 1)) := by
    show ((join2 (rows n (q t 0)) (rows n (q t 1)) ++ join2 (rows n (q t 2)) (rows n (q t 3))).drop 0).take (2 ^ n) = _
    rw [List.drop_zero, List.take_left' l1]
  have e2 : ((rows (n + 1) t).drop (2 ^ n)).take (2 ^ n) = join2 (rows n (q t 2)) (rows n (q t 3)) := by
    show ((join2 (rows n (q t 0)) (rows n (q t 1)) ++ join2 (rows n (q t 2)) (rows n (q t 3))).drop (2 ^ n)).take (2 ^ n) = _
    rw [List.drop_left' l1, List.take_of_length_le (Nat.le_of_eq l2)]
  unfold part
  rw [e1, e2]
  exact ⟨join2_left (l 0 1) (rows_wide n _), join2_right (l 0 1) (rows_wide n _) (rows_wide n _), join2_left (l 2 3) (rows_wide n _), join2_right (l 2 3) (rows_wide n _) (rows_wide n _)⟩
/-- all of a list are as its first -/
def uni (l : List Int) : Bool := l.all fun x => x == l.headD 0
def least : Nat → List (List Int) → T
  | 0, rs => .leaf (rs.flatten.headD 0)
  | n + 1, rs => if uni rs.flatten = true then .leaf (rs.flatten.headD 0) else
    .node (least n (part (2 ^ n) rs 0 0)) (least n (part (2 ^ n) rs (2 ^ n) 0)) (least n (part (2 ^ n) rs 0 (2 ^ n))) (least n (part (2 ^ n) rs (2 ^ n) (2 ^ n)))
theorem uni_iff {rs : List (List Int)} : uni rs.flatten = true ↔ allIs (rs.flatten.headD 0) rs := by
  unfold uni
  rw [List.all_eq_true]
  constructor
  · intro h r hr x hx
    exact beq_iff_eq.mp (h x (List.mem_flatten.mpr ⟨r, hr, hx⟩))
  · intro h x hx
    obtain ⟨r, hr, hx⟩ := List.mem_flatten.mp hx
    exact beq_iff_eq.mpr (h r hr x hx)
theorem pow_pos' (n : Nat) : 0 < 2 ^ n := Nat.pos_of_ne_zero (by simp)
theorem allIs_head {rs : List (List Int)} {i : Int} (h : allIs i rs) (hne : rs.flatten ≠ []) : rs.flatten.headD 0 = i := by
  cases e : rs.flatten with
  | nil => exact (hne e).elim
  | cons x r =>
    have hx : x ∈ rs.flatten := by rw [e]; exact List.mem_cons_self
    obtain ⟨r', hr, hx⟩ := List.mem_flatten.mp hx
    exact h r' hr x hx
theorem flat_ne (n : Nat) (t : T) : (rows n t).flatten ≠ [] := by
  have l := rows_length n t
  have p := pow_pos' n
  cases e : rows n t with
  | nil => rw [e] at l; simp only [List.length_nil] at l; omega
  | cons r rs =>
    have hr := rows_wide n t r (by rw [e]; exact List.mem_cons_self)
    cases r with
    | nil => simp only [List.length_nil] at hr; omega
    | cons x r' => simp
theorem least_rows : ∀ {n : Nat} {t : T}, T.ok n t → least n (rows n t) = lean t
  | 0, .leaf j, _ => rfl
  | 0, .node _ _ _ _, h => h.elim
  | n + 1, t, h => by
    obtain ⟨p0, p1, p2, p3⟩ := part_rows (n := n) t
    show (if uni (rows (n + 1) t).flatten = true then T.leaf ((rows (n + 1) t).flatten.headD 0) else _) = _
    split
    · rename_i u
      exact ((allIs_rows h).mp (uni_iff.mp u)).symm
    · rename_i u
      rw [p0, p1, p2, p3, least_rows (q_ok h 0), least_rows (q_ok h 1), least_rows (q_ok h 2), least_rows (q_ok h 3)]
      have no : ∀ i, ¬ lean t = .leaf i := fun i e => u (uni_iff.mpr (by
        have a := (allIs_rows h).mpr e
        rw [allIs_head a (flat_ne _ _)]
        exact a))
      cases t with
      | leaf i => exact (no i rfl).elim
      | node a b c d => exact (four_node fun i z => no i (four_leaf.mpr z)).symm
/-! ### any data -/
def isT : Nat → PyData → Bool
  | _, .int i => decide (0 ≤ i) && decide (i ≤ 9)
  | n + 1, .tuple ds => ds.length == 4 && ds.all (isT n)
  | _, _ => false
theorem isT_d : ∀ {n : Nat} {d : PyData}, isT n d = true → ∃ t : T, d = t.d ∧ T.ok n t := by
  intro n
  induction n with
  | zero =>
    intro d h
    cases d with
    | int i =>
      obtain ⟨h1, h2⟩ := Bool.and_eq_true_iff.mp (show (decide (0 ≤ i) && decide (i ≤ 9)) = true from h)
      exact ⟨.leaf i, rfl, of_decide_eq_true h1, of_decide_eq_true h2⟩
    | _ => exact (Bool.false_ne_true h).elim
  | succ n ih =>
    intro d h
    cases d with
    | int i =>
      obtain ⟨h1, h2⟩ := Bool.and_eq_true_iff.mp (show (decide (0 ≤ i) && decide (i ≤ 9)) = true from h)
      exact ⟨.leaf i, rfl, of_decide_eq_true h1, of_decide_eq_true h2⟩
    | tuple ds =>
      obtain ⟨h1, h2⟩ := Bool.and_eq_true_iff.mp (show (ds.length == 4 && ds.all (isT n)) = true from h)
      have h3 := List.all_eq_true.mp h2
      match ds, beq_iff_eq.mp h1, h3 with
      | [a, b, c, e], _, h3 =>
        obtain ⟨ta, ea, oa⟩ := ih (h3 a (by simp))
        obtain ⟨tb, eb, ob⟩ := ih (h3 b (by simp))
        obtain ⟨tc, ec, oc⟩ := ih (h3 c (by simp))
        obtain ⟨te, ee, oe⟩ := ih (h3 e (by simp))
        exact ⟨.node ta tb tc te, by rw [ea, eb, ec, ee]; rfl, oa, ob, oc, oe⟩
    | _ => exact (Bool.false_ne_true h).elim
theorem isT_of : ∀ {n : Nat} {t : T}, T.ok n t → isT n t.d = true
  | n, .leaf i, h => by
    have h1 := ok_leaf.mp h
    have e : (decide (0 ≤ i) && decide (i ≤ 9)) = true := Bool.and_eq_true_iff.mpr ⟨decide_eq_true h1.1, decide_eq_true h1.2⟩
    cases n <;> exact e
  | 0, .node _ _ _ _, h => h.elim
  | n + 1, .node a b c d, h => by
    show (([a.d, b.d, c.d, d.d] : List PyData).length == 4 && ([a.d, b.d, c.d, d.d] : List PyData).all (isT n)) = true
    simp only [List.all_cons, List.all_nil, isT_of h.1, isT_of h.2.1, isT_of h.2.2.1, isT_of h.2.2.2]
    rfl
def isP : PyData → Bool
  | .tuple [.int n, d] => decide (0 ≤ n) && (decide (n < 4) && isT n.toNat d)
  | _ => false
/-- a picture -/
def pd (n : Nat) (t : T) : PyData := .tuple [.int n, t.d]
theorem isP_d {d : PyData} (h : isP d = true) : ∃ (n : Nat) (t : T), n ≤ 3 ∧ d = pd n t ∧ T.ok n t := by
  unfold isP at h
  split at h
  · rename_i n d
    obtain ⟨h1, h2⟩ := Bool.and_eq_true_iff.mp h
    obtain ⟨h3, h4⟩ := Bool.and_eq_true_iff.mp h2
    obtain ⟨t, e, o⟩ := isT_d h4
    have h1' : 0 ≤ n := of_decide_eq_true h1
    have h3' : n < 4 := of_decide_eq_true h3
    refine ⟨n.toNat, t, by omega, ?_, o⟩
    unfold pd
    rw [e, Int.toNat_of_nonneg h1']
  · exact (Bool.false_ne_true h).elim
theorem isP_of {n : Nat} {t : T} (hn : n ≤ 3) (h : T.ok n t) : isP (pd n t) = true := by
  show (decide (0 ≤ (n : Int)) && (decide ((n : Int) < 4) && isT (n : Int).toNat t.d)) = true
  rw [decide_eq_true (by omega), decide_eq_true (by omega), Int.toNat_natCast, isT_of h]
  rfl
/-- data of some depth, without dicts -/
def sm : Nat → PyData → Bool
  | _, .none => true
  | _, .bool _ => true
  | _, .int _ => true
  | _, .str x => PyData.strOk x
  | k + 1, .list ds => ds.all (sm k)
  | k + 1, .tuple ds => ds.all (sm k)
  | _, _ => false
theorem sm_all {k : Nat} {ds : List PyData} : ds.all (sm k) = true ↔ ∀ d ∈ ds, sm k d = true := List.all_eq_true
mutual
theorem sm_can : ∀ {k : Nat} (d : PyData), sm k d = true → d.canLay0 = true
  | _, .none, _ => rfl
  | _, .bool _, _ => rfl
  | _, .int _, _ => rfl
  | k, .str x, h => by
    have h' : PyData.strOk x = true := by cases k <;> exact h
    simpa [PyData.canLay0] using h'
  | 0, .list _, h => (Bool.false_ne_true h).elim
  | 0, .tuple _, h => (Bool.false_ne_true h).elim
  | k + 1, .list ds, h => by
    rw [PyData.canLay0]
    exact sm_canAll ds (sm_all.mp h)
  | k + 1, .tuple ds, h => by
    rw [PyData.canLay0]
    exact sm_canAll ds (sm_all.mp h)
  | 0, .dict _, h => (Bool.false_ne_true h).elim
  | _ + 1, .dict _, h => (Bool.false_ne_true h).elim
theorem sm_canAll : ∀ {k : Nat} (ds : List PyData), (∀ d ∈ ds, sm k d = true) → PyData.canLayAll0 ds = true
  | _, [], _ => rfl
  | k, d :: ds, h => by
    rw [PyData.canLayAll0, sm_can d (h d List.mem_cons_self), sm_canAll ds fun e he => h e (List.mem_cons_of_mem _ he)]
    rfl
end
mutual
theorem sm_deep : ∀ {k : Nat} (d : PyData), sm k d = true → d.depth ≤ k
  | _, .none, _ => Nat.zero_le _
  | _, .bool _, _ => Nat.zero_le _
  | _, .int _, _ => Nat.zero_le _
  | _, .str _, _ => Nat.zero_le _
  | 0, .list _, h => (Bool.false_ne_true h).elim
  | 0, .tuple _, h => (Bool.false_ne_true h).elim
  | k + 1, .list ds, h => by
    rw [PyData.depth]
    exact Nat.succ_le_succ (sm_deepAll ds (sm_all.mp h))
  | k + 1, .tuple ds, h => by
    rw [PyData.depth]
    exact Nat.succ_le_succ (sm_deepAll ds (sm_all.mp h))
  | 0, .dict _, h => (Bool.false_ne_true h).elim
  | _ + 1, .dict _, h => (Bool.false_ne_true h).elim
theorem sm_deepAll : ∀ {k : Nat} (ds : List PyData), (∀ d ∈ ds, sm k d = true) → PyData.depthAll ds ≤ k
  | _, [], _ => Nat.zero_le _
  | k, d :: ds, h => by
    rw [PyData.depthAll]
    exact Nat.max_le.mpr ⟨sm_deep d (h d List.mem_cons_self), sm_deepAll ds fun e he => h e (List.mem_cons_of_mem _ he)⟩
end
theorem sm_shaped {k : Nat} {d : PyData} (h : sm k d = true) (hk : k ≤ 64) : SeqAt.shaped d = true := by
  unfold SeqAt.shaped
  rw [sm_can d h, decide_eq_true (Nat.le_trans (sm_deep d h) hk)]
  rfl
theorem sm_up : ∀ {k : Nat} {d : PyData}, sm k d = true → sm (k + 1) d = true := by
  intro k
  induction k with
  | zero =>
    intro d h
    cases d with
    | list ds => exact (Bool.false_ne_true h).elim
    | tuple ds => exact (Bool.false_ne_true h).elim
    | dict ds => exact (Bool.false_ne_true h).elim
    | _ => exact h
  | succ k ih =>
    intro d h
    cases d with
    | list ds => exact sm_all.mpr fun e he => ih (sm_all.mp h e he)
    | tuple ds => exact sm_all.mpr fun e he => ih (sm_all.mp h e he)
    | dict ds => exact (Bool.false_ne_true h).elim
    | _ => exact h
theorem sm_le {k m : Nat} (hkm : k ≤ m) {d : PyData} (h : sm k d = true) : sm m d = true := by
  induction hkm with
  | refl => exact h
  | step _ ih => exact sm_up ih
theorem sm_T : ∀ {n : Nat} {t : T}, T.ok n t → sm n t.d = true
  | n, .leaf i, _ => by cases n <;> rfl
  | 0, .node _ _ _ _, h => h.elim
  | n + 1, .node a b c d, h => by
    show ([a.d, b.d, c.d, d.d] : List PyData).all (sm n) = true
    simp only [List.all_cons, List.all_nil, sm_T h.1, sm_T h.2.1, sm_T h.2.2.1, sm_T h.2.2.2]
    rfl
theorem sm_pd {n : Nat} {t : T} (h : T.ok n t) : sm (n + 1) (pd n t) = true := by
  show ([.int n, t.d] : List PyData).all (sm n) = true
  have e : sm n (.int n) = true := by cases n <;> rfl
  simp only [List.all_cons, List.all_nil, sm_T h, e]
  rfl
theorem eqv_pd {n : Nat} {t : T} (h : T.ok n t) : PyData.eqv (pd n t) (pd n t) = true := SeqAt.eqv_refl _ (sm_can _ (sm_pd h))
theorem eqv_leaf (t : T) (i : Int) : PyData.eqv t.d (.int i) = isL i t := by
  cases t with
  | leaf j => simp [T.d, PyData.eqv, isL]
  | node a b c d => simp [T.d, PyData.eqv, isL]
end Ff
set_option Elab.async false
set_option linter.all false
set_option maxRecDepth 100000
/-! The text by places, its facts by names. Printed by gen_text.py. -/
namespace Ff
open PySem PySem.Spec PyProof.Rows L2
def top (i : Nat) : Stmt := PySem.Challenge.pw_fourfold_k92_whole_painters.main.body.getD i (.Pass ⟨0, 0, 0, 0⟩)
abbrev s_is_worth : Stmt := top 15
abbrev s_is_tree : Stmt := top 16
abbrev s_is_picture : Stmt := top 17
abbrev s_look_picture : Stmt := top 18
abbrev s_quarter : Stmt := top 19
abbrev s_four : Stmt := top 20
abbrev s_lean_tree : Stmt := top 21
abbrev s_lean : Stmt := top 22
abbrev s_look_spot : Stmt := top 23
abbrev s_is_box_of : Stmt := top 26
abbrev s_look_box : Stmt := top 27
abbrev s_look_worth : Stmt := top 28
abbrev s_overlap : Stmt := top 29
abbrev s_is_within : Stmt := top 30
abbrev s_filled_tree : Stmt := top 31
abbrev s_filled : Stmt := top 32
abbrev s_put : Stmt := top 33
abbrev s_moved_tree : Stmt := top 36
abbrev s_turned : Stmt := top 37
abbrev s_mirrored : Stmt := top 38
abbrev s_by_way : Stmt := top 39
abbrev s_look_way : Stmt := top 40
abbrev s_law_cell : Stmt := top 44
abbrev s_law_pick : Stmt := top 45
abbrev s_law_tree : Stmt := top 46
abbrev s_law_picture : Stmt := top 47
abbrev s_law_rows_of : Stmt := top 48
abbrev s_law_rows : Stmt := top 49
abbrev s_law_least : Stmt := top 50
abbrev s_law_of : Stmt := top 51
abbrev s_law_places : Stmt := top 52
abbrev s_law_put : Stmt := top 53
abbrev s_law_there : Stmt := top 54
abbrev s_law_spoilt_thing : Stmt := top 55
abbrev s_law_is_picture : Stmt := top 56
abbrev s_law_is_tree : Stmt := top 57
abbrev s_law_word : Stmt := top 58
abbrev s_law_do : Stmt := top 59
abbrev s_law_turn : Stmt := top 60
abbrev s_law : Stmt := top 61
abbrev s_Pinit : Stmt := inClass (top 42) 0
abbrev s_Pshown : Stmt := inClass (top 42) 1
abbrev s_Pnew_one : Stmt := inClass (top 42) 2
abbrev s_Pfill : Stmt := inClass (top 42) 3
abbrev s_Pdot : Stmt := inClass (top 42) 4
abbrev s_Pturn : Stmt := inClass (top 42) 5
abbrev s_Pundo : Stmt := inClass (top 42) 6
abbrev s_Predo : Stmt := inClass (top 42) 7
abbrev s_Pmany : Stmt := inClass (top 42) 8
def d_is_worth : He.DefD := ⟨("is_worth", none), "is_worth", "is_worth", defArgs s_is_worth, defBody s_is_worth, defScope s_is_worth, [], []⟩
def d_is_tree : He.DefD := ⟨("is_tree", none), "is_tree", "is_tree", defArgs s_is_tree, defBody s_is_tree, defScope s_is_tree, [], []⟩
def d_is_picture : He.DefD := ⟨("is_picture", none), "is_picture", "is_picture", defArgs s_is_picture, defBody s_is_picture, defScope s_is_picture, [], []⟩
def d_look_picture : He.DefD := ⟨("look_picture", none), "look_picture", "look_picture", defArgs s_look_picture, defBody s_look_picture, defScope s_look_picture, [], []⟩
def d_quarter : He.DefD := ⟨("quarter", none), "quarter", "quarter", defArgs s_quarter, defBody s_quarter, defScope s_quarter, [], []⟩
def d_four : He.DefD := ⟨("four", none), "four", "four", defArgs s_four, defBody s_four, defScope s_four, [], []⟩
def d_lean_tree : He.DefD := ⟨("lean_tree", none), "lean_tree", "lean_tree", defArgs s_lean_tree, defBody s_lean_tree, defScope s_lean_tree, [], []⟩
def d_lean : He.DefD := ⟨("lean", none), "lean", "lean", defArgs s_lean, defBody s_lean, defScope s_lean, [], []⟩
def d_look_spot : He.DefD := ⟨("look_spot", none), "look_spot", "look_spot", defArgs s_look_spot, defBody s_look_spot, defScope s_look_spot, [], []⟩
def d_is_box_of : He.DefD := ⟨("is_box_of", none), "is_box_of", "is_box_of", defArgs s_is_box_of, defBody s_is_box_of, defScope s_is_box_of, [], []⟩
def d_look_box : He.DefD := ⟨("look_box", none), "look_box", "look_box", defArgs s_look_box, defBody s_look_box, defScope s_look_box, [], []⟩
def d_look_worth : He.DefD := ⟨("look_worth", none), "look_worth", "look_worth", defArgs s_look_worth, defBody s_look_worth, defScope s_look_worth, [], []⟩
def d_overlap : He.DefD := ⟨("overlap", none), "overlap", "overlap", defArgs s_overlap, defBody s_overlap, defScope s_overlap, [], []⟩
def d_is_within : He.DefD := ⟨("is_within", none), "is_within", "is_within", defArgs s_is_within, defBody s_is_within, defScope s_is_within, [], []⟩
def d_filled_tree : He.DefD := ⟨("filled_tree", none), "filled_tree", "filled_tree", defArgs s_filled_tree, defBody s_filled_tree, defScope s_filled_tree, [], []⟩
def d_filled : He.DefD := ⟨("filled", none), "filled", "filled", defArgs s_filled, defBody s_filled, defScope s_filled, [], []⟩
def d_put : He.DefD := ⟨("put", none), "put", "put", defArgs s_put, defBody s_put, defScope s_put, [], []⟩
def d_moved_tree : He.DefD := ⟨("moved_tree", none), "moved_tree", "moved_tree", defArgs s_moved_tree, defBody s_moved_tree, defScope s_moved_tree, [], []⟩
def d_turned : He.DefD := ⟨("turned", none), "turned", "turned", defArgs s_turned, defBody s_turned, defScope s_turned, [], []⟩
def d_mirrored : He.DefD := ⟨("mirrored", none), "mirrored", "mirrored", defArgs s_mirrored, defBody s_mirrored, defScope s_mirrored, [], []⟩
def d_by_way : He.DefD := ⟨("by_way", none), "by_way", "by_way", defArgs s_by_way, defBody s_by_way, defScope s_by_way, [], []⟩
def d_look_way : He.DefD := ⟨("look_way", none), "look_way", "look_way", defArgs s_look_way, defBody s_look_way, defScope s_look_way, [], []⟩
def d_law_cell : He.DefD := ⟨("_law_cell", none), "_law_cell", "_law_cell", defArgs s_law_cell, defBody s_law_cell, defScope s_law_cell, [], []⟩
def d_law_pick : He.DefD := ⟨("_law_pick", none), "_law_pick", "_law_pick", defArgs s_law_pick, defBody s_law_pick, defScope s_law_pick, [], []⟩
def d_law_tree : He.DefD := ⟨("_law_tree", none), "_law_tree", "_law_tree", defArgs s_law_tree, defBody s_law_tree, defScope s_law_tree, [], []⟩
def d_law_picture : He.DefD := ⟨("_law_picture", none), "_law_picture", "_law_picture", defArgs s_law_picture, defBody s_law_picture, defScope s_law_picture, [], []⟩
def d_law_rows_of : He.DefD := ⟨("_law_rows_of", none), "_law_rows_of", "_law_rows_of", defArgs s_law_rows_of, defBody s_law_rows_of, defScope s_law_rows_of, [], []⟩
def d_law_rows : He.DefD := ⟨("_law_rows", none), "_law_rows", "_law_rows", defArgs s_law_rows, defBody s_law_rows, defScope s_law_rows, [], []⟩
def d_law_least : He.DefD := ⟨("_law_least", none), "_law_least", "_law_least", defArgs s_law_least, defBody s_law_least, defScope s_law_least, [], []⟩
def d_law_of : He.DefD := ⟨("_law_of", none), "_law_of", "_law_of", defArgs s_law_of, defBody s_law_of, defScope s_law_of, [], []⟩
def d_law_places : He.DefD := ⟨("_law_places", none), "_law_places", "_law_places", defArgs s_law_places, defBody s_law_places, defScope s_law_places, [], []⟩
def d_law_put : He.DefD := ⟨("_law_put", none), "_law_put", "_law_put", defArgs s_law_put, defBody s_law_put, defScope s_law_put, [], []⟩
def d_law_there : He.DefD := ⟨("_law_there", none), "_law_there", "_law_there", defArgs s_law_there, defBody s_law_there, defScope s_law_there, [], []⟩
def d_law_spoilt_thing : He.DefD := ⟨("_law_spoilt_thing", none), "_law_spoilt_thing", "_law_spoilt_thing", defArgs s_law_spoilt_thing, defBody s_law_spoilt_thing, defScope s_law_spoilt_thing, [], []⟩
def d_law_is_picture : He.DefD := ⟨("_law_is_picture", none), "_law_is_picture", "_law_is_picture", defArgs s_law_is_picture, defBody s_law_is_picture, defScope s_law_is_picture, [], []⟩
def d_law_is_tree : He.DefD := ⟨("_law_is_tree", none), "_law_is_tree", "_law_is_tree", defArgs s_law_is_tree, defBody s_law_is_tree, defScope s_law_is_tree, [], []⟩
def d_law_word : He.DefD := ⟨("_law_word", none), "_law_word", "_law_word", defArgs s_law_word, defBody s_law_word, defScope s_law_word, [], []⟩
def d_law_do : He.DefD := ⟨("_law_do", none), "_law_do", "_law_do", defArgs s_law_do, defBody s_law_do, defScope s_law_do, [], []⟩
def d_law_turn : He.DefD := ⟨("_law_turn", none), "_law_turn", "_law_turn", defArgs s_law_turn, defBody s_law_turn, defScope s_law_turn, [], []⟩
def d_law : He.DefD := ⟨("law", none), "law", "law", defArgs s_law, defBody s_law, defScope s_law, [], []⟩
def d_Pinit : He.DefD := ⟨("Painter", some "__init__"), "__init__", "Painter.__init__", defArgs s_Pinit, defBody s_Pinit, defScope s_Pinit, [], []⟩
def d_Pshown : He.DefD := ⟨("Painter", some "shown"), "shown", "Painter.shown", defArgs s_Pshown, defBody s_Pshown, defScope s_Pshown, [], []⟩
def d_Pnew_one : He.DefD := ⟨("Painter", some "new_one"), "new_one", "Painter.new_one", defArgs s_Pnew_one, defBody s_Pnew_one, defScope s_Pnew_one, [], []⟩
def d_Pfill : He.DefD := ⟨("Painter", some "fill"), "fill", "Painter.fill", defArgs s_Pfill, defBody s_Pfill, defScope s_Pfill, [], []⟩
def d_Pdot : He.DefD := ⟨("Painter", some "dot"), "dot", "Painter.dot", defArgs s_Pdot, defBody s_Pdot, defScope s_Pdot, [], []⟩
def d_Pturn : He.DefD := ⟨("Painter", some "turn"), "turn", "Painter.turn", defArgs s_Pturn, defBody s_Pturn, defScope s_Pturn, [], []⟩
def d_Pundo : He.DefD := ⟨("Painter", some "undo"), "undo", "Painter.undo", defArgs s_Pundo, defBody s_Pundo, defScope s_Pundo, [], []⟩
def d_Predo : He.DefD := ⟨("Painter", some "redo"), "redo", "Painter.redo", defArgs s_Predo, defBody s_Predo, defScope s_Predo, [], []⟩
def d_Pmany : He.DefD := ⟨("Painter", some "many"), "many", "Painter.many", defArgs s_Pmany, defBody s_Pmany, defScope s_Pmany, [], []⟩
def fns : List He.DefD := [d_is_worth, d_is_tree, d_is_picture, d_look_picture, d_quarter, d_four, d_lean_tree, d_lean, d_look_spot, d_is_box_of, d_look_box, d_look_worth, d_overlap, d_is_within, d_filled_tree, d_filled, d_put, d_moved_tree, d_turned, d_mirrored, d_by_way, d_look_way, d_law_cell, d_law_pick, d_law_tree, d_law_picture, d_law_rows_of, d_law_rows, d_law_least, d_law_of, d_law_places, d_law_put, d_law_there, d_law_spoilt_thing, d_law_is_picture, d_law_is_tree, d_law_word, d_law_do, d_law_turn, d_law, d_Pinit, d_Pshown, d_Pnew_one, d_Pfill, d_Pdot, d_Pturn, d_Pundo, d_Predo, d_Pmany]
def fas : List He.Fa := [.glo "is_worth", .glo "is_tree", .glo "is_picture", .glo "look_picture", .glo "quarter", .glo "four", .glo "lean_tree", .glo "lean", .glo "look_spot", .glo "is_box_of", .glo "look_box", .glo "look_worth", .glo "overlap", .glo "is_within", .glo "filled_tree", .glo "filled", .glo "put", .glo "moved_tree", .glo "turned", .glo "mirrored", .glo "by_way", .glo "look_way", .glo "_law_cell", .glo "_law_pick", .glo "_law_tree", .glo "_law_picture", .glo "_law_rows_of", .glo "_law_rows", .glo "_law_least", .glo "_law_of", .glo "_law_places", .glo "_law_put", .glo "_law_there", .glo "_law_spoilt_thing", .glo "_law_is_picture", .glo "_law_is_tree", .glo "_law_word", .glo "_law_do", .glo "_law_turn", .glo "law", .glo "FourError", .glo "NoPicture", .glo "NoSpot", .glo "BadBox", .glo "Unlike", .glo "NoRule", .glo "NoBlocks", .glo "NoChange", .glo "NoNumber", .glo "NothingDone", .glo "NoText", .glo "Painter", .glo "SIDES", .glo "HALVES", .free "isinstance", .free "int", .free "bool", .free "tuple", .free "len", .free "all", .free "max", .free "min", .free "enumerate", .free "range", .free "set", .free "ValueError", .int "GREATEST" 9, .int "WAYS" 8, .cls "Painter", .noat "Painter" "shelf", .noat "Painter" "place", .meth "Painter" "shown", .meth "Painter" "new_one", .meth "Painter" "fill", .meth "Painter" "dot", .meth "Painter" "turn", .meth "Painter" "undo", .meth "Painter" "redo", .meth "Painter" "many", .mkr "Painter", .exc "NoPicture", .exc "NoSpot", .exc "BadBox", .exc "NothingDone", .exm "NoPicture" "FourError" true, .exm "NoSpot" "FourError" true, .exm "BadBox" "FourError" true, .exm "NothingDone" "FourError" true]
/-! ### more: tables, the classes of what is caught -/
def itmA (K : PySem.W.Frag) (a : Addr) (i : Nat) : Addr := match K.lookup a with
  | some ⟨_, _, .seq its _, _⟩ => (match its.toList[i]? with
    | some (.ref b) => b
    | _ => 0)
  | _ => 0
def tupA (K : PySem.W.Frag) (a : Addr) (vs : List V) : Bool := match K.lookup a with
  | some ⟨.type c, _, .seq its _, _⟩ => decide (c = "tuple") && (decide (its.size ≤ sizeLine) && He.relAll vs its.toList)
  | _ => false
theorem tupA_ok {K : PySem.W.Frag} {a : Addr} {vs : List V} (h : tupA K a vs = true) (H : Hp) : SqT K H a vs := by
  unfold tupA at h
  cases q : K.lookup a with
  | none =>
    rw [q] at h
    cases h
  | some o =>
    obtain ⟨oc, od, dt, osl⟩ := o
    rw [q] at h
    cases oc with
    | type c =>
      cases dt with
      | seq its n =>
        obtain ⟨h1, h2⟩ := He.ba (show (decide (c = "tuple") && (decide (its.size ≤ sizeLine) && He.relAll vs its.toList)) = true from h)
        obtain ⟨h3, h4⟩ := He.ba h2
        exact .inr ⟨_, its, n, q, congrArg Value.type (of_decide_eq_true h1), rfl, of_decide_eq_true h3, He.relAll_ok h4⟩
      | _ => cases h
    | _ => cases dt <;> cases h
def halfA (K : PySem.W.Frag) (i : Nat) : Addr := itmA K (He.ga K "HALVES") i
def isAs (K : PySem.W.Frag) (x y : Str) (b : Bool) : Bool := decide (PySem.W.kitOne K (.ref (He.ga K x)) (.ref (He.ga K y)) = some b)
def kinds : List Str := ["BadBox", "NoBlocks", "NoChange", "NoNumber", "NoPicture", "NoRule", "NoSpot", "NoText", "NothingDone", "Unlike"]
def raisd : List Str := ["NoPicture", "NoSpot", "BadBox", "NothingDone"]
def excCB (K : PySem.W.Frag) (D : Addr) : Bool := He.eqO (PySem.W.findIn K (.ref D) "__getattribute__") (some (some (.builtin "BaseException.__getattribute__"))) && (He.eqO (PySem.W.findIn K (.ref D) "__getattr__") (some none) &&
  (decide (PySem.W.subIn K (.ref D) (.type "BaseException") = some true) && (PySem.W.hasDictIn K D && (He.eqO (PySem.W.findIn K (.ref D) "__class__") (some (some (.builtin "object.__class__"))) &&
  (He.eqO (PySem.W.specialIn K (.builtin "object.__class__") "__get__") (some (some (.builtin "getset_descriptor.__get__"))) && (decide (PySem.W.takesIn K (.builtin "object.__class__") = some true) && decide (PySem.W.mroIn K D (.type "object") = some true)))))))
theorem excCB_ok {K : PySem.W.Frag} {D : Addr} (h : excCB K D = true) : ExcC K D := by
  obtain ⟨h1, h⟩ := He.ba h
  obtain ⟨h2, h⟩ := He.ba h
  obtain ⟨h3, h⟩ := He.ba h
  obtain ⟨h4, h⟩ := He.ba h
  obtain ⟨h5, h⟩ := He.ba h
  obtain ⟨h6, h⟩ := He.ba h
  obtain ⟨h7, h8⟩ := He.ba h
  exact ⟨He.eqO_ok h1, He.eqO_ok h2, of_decide_eq_true h3, h4, He.eqO_ok h5, He.eqO_ok h6, of_decide_eq_true h7, of_decide_eq_true h8⟩
def exB (K : PySem.W.Frag) : Bool := tupA K (He.ga K "SIDES") [.int 1, .int 2, .int 4, .int 8] && (tupA K (He.ga K "HALVES") [.ref (halfA K 0), .ref (halfA K 1), .ref (halfA K 2), .ref (halfA K 3)] &&
  (tupA K (halfA K 0) [.int 0, .int 0] && (tupA K (halfA K 1) [.int 1, .int 0] && (tupA K (halfA K 2) [.int 0, .int 1] && (tupA K (halfA K 3) [.int 1, .int 1] &&
  ((raisd.all fun x => kinds.all fun y => isAs K x y (decide (x = y))) && ((raisd.all fun x => excCB K (He.ga K x)) && (raisd.all fun x => decide (PySem.W.kitOne K (.ref (He.ga K x)) (.type "ValueError") = some true)))))))))
/-! ### the Hook -/
abbrev AlF : Type := He.AlD × Bool
def obsF (K : PySem.W.Frag) : AlF := (He.obsD fas fns K, exB K)
def valF : AlF := (He.valD fns, true)
def SaysF (K : PySem.W.Frag) : Prop := obsF K = valF
def obsFG (n : Nat) (g : Addr → Option Obj) : AlF := obsF (He.frG g (He.asD g n))
def hookF (n : Nat) : PySem.W.Hook where
  α := AlF
  obs := fun s => obsFG n s.heap.get?
  val := fun _ => valF
  says := fun _ h => ∃ K : PySem.W.Frag, K.In h ∧ SaysF K
  of := fun _ _ e => ⟨_, He.frG_in, e⟩
  keeps := fun _ _ _ ⟨K, hK, c⟩ k => ⟨K, PySem.W.Frag.In.keeps hK k, c⟩
theorem obsFG_eq {n : Nat} {g : Addr → Option Obj} {s : Shared} (h : ∀ a, g a = s.heap.get? a) : obsFG n g = (hookF n).obs s := by
  have e : g = s.heap.get? := funext h
  rw [e] <;> rfl
/-- what the bodies lean on -/
structure Tx (K : PySem.W.Frag) (mg : Str → Option Value) : Prop where
  ex : ∃ h : Heap, K.In h ∧ h.Ns mainGlobals mg
  says : SaysF K
section
variable {K : PySem.W.Frag} {mg : Str → Option Value}
theorem Tx.dsay (T : Tx K mg) : He.SaysD fas fns K := congrArg (fun z : AlF => z.1) T.says
theorem Tx.more (T : Tx K mg) : exB K = true := congrArg (fun z : AlF => z.2) T.says
theorem Tx.g_is_worth (T : Tx K mg) : mg "is_worth" = some (.ref (He.ga K "is_worth")) := by
  obtain ⟨h, X, G⟩ := T.ex
  exact He.glo_ok X G (T.dsay.fact 0 (f := .glo "is_worth") rfl)
theorem Tx.g_is_tree (T : Tx K mg) : mg "is_tree" = some (.ref (He.ga K "is_tree")) := by
  obtain ⟨h, X, G⟩ := T.ex
  exact He.glo_ok X G (T.dsay.fact 1 (f := .glo "is_tree") rfl)
theorem Tx.g_is_picture (T : Tx K mg) : mg "is_picture" = some (.ref (He.ga K "is_picture")) := by
  obtain ⟨h, X, G⟩ := T.ex
  exact He.glo_ok X G (T.dsay.fact 2 (f := .glo "is_picture") rfl)
theorem Tx.g_look_picture (T : Tx K mg) : mg "look_picture" = some (.ref (He.ga K "look_picture")) := by
  obtain ⟨h, X, G⟩ := T.ex
  exact He.glo_ok X G (T.dsay.fact 3 (f := .glo "look_picture") rfl)
theorem Tx.g_quarter (T : Tx K mg) : mg "quarter" = some (.ref (He.ga K "quarter")) := by
  obtain ⟨h, X, G⟩ := T.ex
  exact He.glo_ok X G (T.dsay.fact 4 (f := .glo "quarter") rfl)
theorem Tx.g_four (T : Tx K mg) : mg "four" = some (.ref (He.ga K "four")) := by
  obtain ⟨h, X, G⟩ := T.ex
  exact He.glo_ok X G (T.dsay.fact 5 (f := .glo "four") rfl)
theorem Tx.g_lean_tree (T : Tx K mg) : mg "lean_tree" = some (.ref (He.ga K "lean_tree")) := by
  obtain ⟨h, X, G⟩ := T.ex
  exact He.glo_ok X G (T.dsay.fact 6 (f := .glo "lean_tree") rfl)
theorem Tx.g_lean (T : Tx K mg) : mg "lean" = some (.ref (He.ga K "lean")) := by
  obtain ⟨h, X, G⟩ := T.ex
  exact He.glo_ok X G (T.dsay.fact 7 (f := .glo "lean") rfl)
theorem Tx.g_look_spot (T : Tx K mg) : mg "look_spot" = some (.ref (He.ga K "look_spot")) := by
  obtain ⟨h, X, G⟩ := T.ex
  exact He.glo_ok X G (T.dsay.fact 8 (f := .glo "look_spot") rfl)
theorem Tx.g_is_box_of (T : Tx K mg) : mg "is_box_of" = some (.ref (He.ga K "is_box_of")) := by
  obtain ⟨h, X, G⟩ := T.ex
  exact He.glo_ok X G (T.dsay.fact 9 (f := .glo "is_box_of") rfl)
theorem Tx.g_look_box (T : Tx K mg) : mg "look_box" = some (.ref (He.ga K "look_box")) := by
  obtain ⟨h, X, G⟩ := T.ex
  exact He.glo_ok X G (T.dsay.fact 10 (f := .glo "look_box") rfl)
theorem Tx.g_look_worth (T : Tx K mg) : mg "look_worth" = some (.ref (He.ga K "look_worth")) := by
  obtain ⟨h, X, G⟩ := T.ex
  exact He.glo_ok X G (T.dsay.fact 11 (f := .glo "look_worth") rfl)
theorem Tx.g_overlap (T : Tx K mg) : mg "overlap" = some (.ref (He.ga K "overlap")) := by
  obtain ⟨h, X, G⟩ := T.ex
  exact He.glo_ok X G (T.dsay.fact 12 (f := .glo "overlap") rfl)
theorem Tx.g_is_within (T : Tx K mg) : mg "is_within" = some (.ref (He.ga K "is_within")) := by
  obtain ⟨h, X, G⟩ := T.ex
  exact He.glo_ok X G (T.dsay.fact 13 (f := .glo "is_within") rfl)
theorem Tx.g_filled_tree (T : Tx K mg) : mg "filled_tree" = some (.ref (He.ga K "filled_tree")) := by
  obtain ⟨h, X, G⟩ := T.ex
  exact He.glo_ok X G (T.dsay.fact 14 (f := .glo "filled_tree") rfl)
theorem Tx.g_filled (T : Tx K mg) : mg "filled" = some (.ref (He.ga K "filled")) := by
  obtain ⟨h, X, G⟩ := T.ex
  exact He.glo_ok X G (T.dsay.fact 15 (f := .glo "filled") rfl)
theorem Tx.g_put (T : Tx K mg) : mg "put" = some (.ref (He.ga K "put")) := by
  obtain ⟨h, X, G⟩ := T.ex
  exact He.glo_ok X G (T.dsay.fact 16 (f := .glo "put") rfl)
theorem Tx.g_moved_tree (T : Tx K mg) : mg "moved_tree" = some (.ref (He.ga K "moved_tree")) := by
  obtain ⟨h, X, G⟩ := T.ex
  exact He.glo_ok X G (T.dsay.fact 17 (f := .glo "moved_tree") rfl)
theorem Tx.g_turned (T : Tx K mg) : mg "turned" = some (.ref (He.ga K "turned")) := by
  obtain ⟨h, X, G⟩ := T.ex
  exact He.glo_ok X G (T.dsay.fact 18 (f := .glo "turned") rfl)
theorem Tx.g_mirrored (T : Tx K mg) : mg "mirrored" = some (.ref (He.ga K "mirrored")) := by
  obtain ⟨h, X, G⟩ := T.ex
  exact He.glo_ok X G (T.dsay.fact 19 (f := .glo "mirrored") rfl)
theorem Tx.g_by_way (T : Tx K mg) : mg "by_way" = some (.ref (He.ga K "by_way")) := by
  obtain ⟨h, X, G⟩ := T.ex
  exact He.glo_ok X G (T.dsay.fact 20 (f := .glo "by_way") rfl)
theorem Tx.g_look_way (T : Tx K mg) : mg "look_way" = some (.ref (He.ga K "look_way")) := by
  obtain ⟨h, X, G⟩ := T.ex
  exact He.glo_ok X G (T.dsay.fact 21 (f := .glo "look_way") rfl)
theorem Tx.g_law_cell (T : Tx K mg) : mg "_law_cell" = some (.ref (He.ga K "_law_cell")) := by
  obtain ⟨h, X, G⟩ := T.ex
  exact He.glo_ok X G (T.dsay.fact 22 (f := .glo "_law_cell") rfl)
theorem Tx.g_law_pick (T : Tx K mg) : mg "_law_pick" = some (.ref (He.ga K "_law_pick")) := by
  obtain ⟨h, X, G⟩ := T.ex
  exact He.glo_ok X G (T.dsay.fact 23 (f := .glo "_law_pick") rfl)
theorem Tx.g_law_tree (T : Tx K mg) : mg "_law_tree" = some (.ref (He.ga K "_law_tree")) := by
  obtain ⟨h, X, G⟩ := T.ex
  exact He.glo_ok X G (T.dsay.fact 24 (f := .glo "_law_tree") rfl)
theorem Tx.g_law_picture (T : Tx K mg) : mg "_law_picture" = some (.ref (He.ga K "_law_picture")) := by
  obtain ⟨h, X, G⟩ := T.ex
  exact He.glo_ok X G (T.dsay.fact 25 (f := .glo "_law_picture") rfl)
theorem Tx.g_law_rows_of (T : Tx K mg) : mg "_law_rows_of" = some (.ref (He.ga K "_law_rows_of")) := by
  obtain ⟨h, X, G⟩ := T.ex
  exact He.glo_ok X G (T.dsay.fact 26 (f := .glo "_law_rows_of") rfl)
theorem Tx.g_law_rows (T : Tx K mg) : mg "_law_rows" = some (.ref (He.ga K "_law_rows")) := by
  obtain ⟨h, X, G⟩ := T.ex
  exact He.glo_ok X G (T.dsay.fact 27 (f := .glo "_law_rows") rfl)
theorem Tx.g_law_least (T : Tx K mg) : mg "_law_least" = some (.ref (He.ga K "_law_least")) := by
  obtain ⟨h, X, G⟩ := T.ex
  exact He.glo_ok X G (T.dsay.fact 28 (f := .glo "_law_least") rfl)
theorem Tx.g_law_of (T : Tx K mg) : mg "_law_of" = some (.ref (He.ga K "_law_of")) := by
  obtain ⟨h, X, G⟩ := T.ex
  exact He.glo_ok X G (T.dsay.fact 29 (f := .glo "_law_of") rfl)
theorem Tx.g_law_places (T : Tx K mg) : mg "_law_places" = some (.ref (He.ga K "_law_places")) := by
  obtain ⟨h, X, G⟩ := T.ex
  exact He.glo_ok X G (T.dsay.fact 30 (f := .glo "_law_places") rfl)
theorem Tx.g_law_put (T : Tx K mg) : mg "_law_put" = some (.ref (He.ga K "_law_put")) := by
  obtain ⟨h, X, G⟩ := T.ex
  exact He.glo_ok X G (T.dsay.fact 31 (f := .glo "_law_put") rfl)
theorem Tx.g_law_there (T : Tx K mg) : mg "_law_there" = some (.ref (He.ga K "_law_there")) := by
  obtain ⟨h, X, G⟩ := T.ex
  exact He.glo_ok X G (T.dsay.fact 32 (f := .glo "_law_there") rfl)
theorem Tx.g_law_spoilt_thing (T : Tx K mg) : mg "_law_spoilt_thing" = some (.ref (He.ga K "_law_spoilt_thing")) := by
  obtain ⟨h, X, G⟩ := T.ex
  exact He.glo_ok X G (T.dsay.fact 33 (f := .glo "_law_spoilt_thing") rfl)
theorem Tx.g_law_is_picture (T : Tx K mg) : mg "_law_is_picture" = some (.ref (He.ga K "_law_is_picture")) := by
  obtain ⟨h, X, G⟩ := T.ex
  exact He.glo_ok X G (T.dsay.fact 34 (f := .glo "_law_is_picture") rfl)
theorem Tx.g_law_is_tree (T : Tx K mg) : mg "_law_is_tree" = some (.ref (He.ga K "_law_is_tree")) := by
  obtain ⟨h, X, G⟩ := T.ex
  exact He.glo_ok X G (T.dsay.fact 35 (f := .glo "_law_is_tree") rfl)
theorem Tx.g_law_word (T : Tx K mg) : mg "_law_word" = some (.ref (He.ga K "_law_word")) := by
  obtain ⟨h, X, G⟩ := T.ex
  exact He.glo_ok X G (T.dsay.fact 36 (f := .glo "_law_word") rfl)
theorem Tx.g_law_do (T : Tx K mg) : mg "_law_do" = some (.ref (He.ga K "_law_do")) := by
  obtain ⟨h, X, G⟩ := T.ex
  exact He.glo_ok X G (T.dsay.fact 37 (f := .glo "_law_do") rfl)
theorem Tx.g_law_turn (T : Tx K mg) : mg "_law_turn" = some (.ref (He.ga K "_law_turn")) := by
  obtain ⟨h, X, G⟩ := T.ex
  exact He.glo_ok X G (T.dsay.fact 38 (f := .glo "_law_turn") rfl)
theorem Tx.g_law (T : Tx K mg) : mg "law" = some (.ref (He.ga K "law")) := by
  obtain ⟨h, X, G⟩ := T.ex
  exact He.glo_ok X G (T.dsay.fact 39 (f := .glo "law") rfl)
theorem Tx.g_FourError (T : Tx K mg) : mg "FourError" = some (.ref (He.ga K "FourError")) := by
  obtain ⟨h, X, G⟩ := T.ex
  exact He.glo_ok X G (T.dsay.fact 40 (f := .glo "FourError") rfl)
theorem Tx.g_NoPicture (T : Tx K mg) : mg "NoPicture" = some (.ref (He.ga K "NoPicture")) := by
  obtain ⟨h, X, G⟩ := T.ex
  exact He.glo_ok X G (T.dsay.fact 41 (f := .glo "NoPicture") rfl)
theorem Tx.g_NoSpot (T : Tx K mg) : mg "NoSpot" = some (.ref (He.ga K "NoSpot")) := by
  obtain ⟨h, X, G⟩ := T.ex
  exact He.glo_ok X G (T.dsay.fact 42 (f := .glo "NoSpot") rfl)
theorem Tx.g_BadBox (T : Tx K mg) : mg "BadBox" = some (.ref (He.ga K "BadBox")) := by
  obtain ⟨h, X, G⟩ := T.ex
  exact He.glo_ok X G (T.dsay.fact 43 (f := .glo "BadBox") rfl)
theorem Tx.g_Unlike (T : Tx K mg) : mg "Unlike" = some (.ref (He.ga K "Unlike")) := by
  obtain ⟨h, X, G⟩ := T.ex
  exact He.glo_ok X G (T.dsay.fact 44 (f := .glo "Unlike") rfl)
theorem Tx.g_NoRule (T : Tx K mg) : mg "NoRule" = some (.ref (He.ga K "NoRule")) := by
  obtain ⟨h, X, G⟩ := T.ex
  exact He.glo_ok X G (T.dsay.fact 45 (f := .glo "NoRule") rfl)
theorem Tx.g_NoBlocks (T : Tx K mg) : mg "NoBlocks" = some (.ref (He.ga K "NoBlocks")) := by
  obtain ⟨h, X, G⟩ := T.ex
  exact He.glo_ok X G (T.dsay.fact 46 (f := .glo "NoBlocks") rfl)
theorem Tx.g_NoChange (T : Tx K mg) : mg "NoChange" = some (.ref (He.ga K "NoChange")) := by
  obtain ⟨h, X, G⟩ := T.ex
  exact He.glo_ok X G (T.dsay.fact 47 (f := .glo "NoChange") rfl)
theorem Tx.g_NoNumber (T : Tx K mg) : mg "NoNumber" = some (.ref (He.ga K "NoNumber")) := by
  obtain ⟨h, X, G⟩ := T.ex
  exact He.glo_ok X G (T.dsay.fact 48 (f := .glo "NoNumber") rfl)
theorem Tx.g_NothingDone (T : Tx K mg) : mg "NothingDone" = some (.ref (He.ga K "NothingDone")) := by
  obtain ⟨h, X, G⟩ := T.ex
  exact He.glo_ok X G (T.dsay.fact 49 (f := .glo "NothingDone") rfl)
theorem Tx.g_NoText (T : Tx K mg) : mg "NoText" = some (.ref (He.ga K "NoText")) := by
  obtain ⟨h, X, G⟩ := T.ex
  exact He.glo_ok X G (T.dsay.fact 50 (f := .glo "NoText") rfl)
theorem Tx.g_Painter (T : Tx K mg) : mg "Painter" = some (.ref (He.ga K "Painter")) := by
  obtain ⟨h, X, G⟩ := T.ex
  exact He.glo_ok X G (T.dsay.fact 51 (f := .glo "Painter") rfl)
theorem Tx.g_SIDES (T : Tx K mg) : mg "SIDES" = some (.ref (He.ga K "SIDES")) := by
  obtain ⟨h, X, G⟩ := T.ex
  exact He.glo_ok X G (T.dsay.fact 52 (f := .glo "SIDES") rfl)
theorem Tx.g_HALVES (T : Tx K mg) : mg "HALVES" = some (.ref (He.ga K "HALVES")) := by
  obtain ⟨h, X, G⟩ := T.ex
  exact He.glo_ok X G (T.dsay.fact 53 (f := .glo "HALVES") rfl)
theorem Tx.z_isinstance (T : Tx K mg) : mg "isinstance" = none := by
  obtain ⟨h, X, G⟩ := T.ex
  exact He.free_ok X G (T.dsay.fact 54 (f := .free "isinstance") rfl)
theorem Tx.z_int (T : Tx K mg) : mg "int" = none := by
  obtain ⟨h, X, G⟩ := T.ex
  exact He.free_ok X G (T.dsay.fact 55 (f := .free "int") rfl)
theorem Tx.z_bool (T : Tx K mg) : mg "bool" = none := by
  obtain ⟨h, X, G⟩ := T.ex
  exact He.free_ok X G (T.dsay.fact 56 (f := .free "bool") rfl)
theorem Tx.z_tuple (T : Tx K mg) : mg "tuple" = none := by
  obtain ⟨h, X, G⟩ := T.ex
  exact He.free_ok X G (T.dsay.fact 57 (f := .free "tuple") rfl)
theorem Tx.z_len (T : Tx K mg) : mg "len" = none := by
  obtain ⟨h, X, G⟩ := T.ex
  exact He.free_ok X G (T.dsay.fact 58 (f := .free "len") rfl)
theorem Tx.z_all (T : Tx K mg) : mg "all" = none := by
  obtain ⟨h, X, G⟩ := T.ex
  exact He.free_ok X G (T.dsay.fact 59 (f := .free "all") rfl)
theorem Tx.z_max (T : Tx K mg) : mg "max" = none := by
  obtain ⟨h, X, G⟩ := T.ex
  exact He.free_ok X G (T.dsay.fact 60 (f := .free "max") rfl)
theorem Tx.z_min (T : Tx K mg) : mg "min" = none := by
  obtain ⟨h, X, G⟩ := T.ex
  exact He.free_ok X G (T.dsay.fact 61 (f := .free "min") rfl)
theorem Tx.z_enumerate (T : Tx K mg) : mg "enumerate" = none := by
  obtain ⟨h, X, G⟩ := T.ex
  exact He.free_ok X G (T.dsay.fact 62 (f := .free "enumerate") rfl)
theorem Tx.z_range (T : Tx K mg) : mg "range" = none := by
  obtain ⟨h, X, G⟩ := T.ex
  exact He.free_ok X G (T.dsay.fact 63 (f := .free "range") rfl)
theorem Tx.z_set (T : Tx K mg) : mg "set" = none := by
  obtain ⟨h, X, G⟩ := T.ex
  exact He.free_ok X G (T.dsay.fact 64 (f := .free "set") rfl)
theorem Tx.z_ValueError (T : Tx K mg) : mg "ValueError" = none := by
  obtain ⟨h, X, G⟩ := T.ex
  exact He.free_ok X G (T.dsay.fact 65 (f := .free "ValueError") rfl)
theorem Tx.i_GREATEST (T : Tx K mg) : ∃ t, mg "GREATEST" = some (.int 9 t) := by
  obtain ⟨h, X, G⟩ := T.ex
  exact He.int_ok X G (T.dsay.fact 66 (f := .int "GREATEST" 9) rfl)
theorem Tx.i_WAYS (T : Tx K mg) : ∃ t, mg "WAYS" = some (.int 8 t) := by
  obtain ⟨h, X, G⟩ := T.ex
  exact He.int_ok X G (T.dsay.fact 67 (f := .int "WAYS" 8) rfl)
theorem Tx.cP (T : Tx K mg) : Cls K (He.ga K "Painter") := He.cls_ok (T.dsay.fact 68 (f := .cls "Painter") rfl)
theorem Tx.n_shelf (T : Tx K mg) : NoAttr K (He.ga K "Painter") "shelf" := He.noat_ok (T.dsay.fact 69 (f := .noat "Painter" "shelf") rfl)
theorem Tx.n_place (T : Tx K mg) : NoAttr K (He.ga K "Painter") "place" := He.noat_ok (T.dsay.fact 70 (f := .noat "Painter" "place") rfl)
theorem Tx.m_shown (T : Tx K mg) : Meth K (He.ga K "Painter") "shown" (He.ma K (He.ga K "Painter") "shown") := He.meth_ok (T.dsay.fact 71 (f := .meth "Painter" "shown") rfl)
theorem Tx.m_new_one (T : Tx K mg) : Meth K (He.ga K "Painter") "new_one" (He.ma K (He.ga K "Painter") "new_one") := He.meth_ok (T.dsay.fact 72 (f := .meth "Painter" "new_one") rfl)
theorem Tx.m_fill (T : Tx K mg) : Meth K (He.ga K "Painter") "fill" (He.ma K (He.ga K "Painter") "fill") := He.meth_ok (T.dsay.fact 73 (f := .meth "Painter" "fill") rfl)
theorem Tx.m_dot (T : Tx K mg) : Meth K (He.ga K "Painter") "dot" (He.ma K (He.ga K "Painter") "dot") := He.meth_ok (T.dsay.fact 74 (f := .meth "Painter" "dot") rfl)
theorem Tx.m_turn (T : Tx K mg) : Meth K (He.ga K "Painter") "turn" (He.ma K (He.ga K "Painter") "turn") := He.meth_ok (T.dsay.fact 75 (f := .meth "Painter" "turn") rfl)
theorem Tx.m_undo (T : Tx K mg) : Meth K (He.ga K "Painter") "undo" (He.ma K (He.ga K "Painter") "undo") := He.meth_ok (T.dsay.fact 76 (f := .meth "Painter" "undo") rfl)
theorem Tx.m_redo (T : Tx K mg) : Meth K (He.ga K "Painter") "redo" (He.ma K (He.ga K "Painter") "redo") := He.meth_ok (T.dsay.fact 77 (f := .meth "Painter" "redo") rfl)
theorem Tx.m_many (T : Tx K mg) : Meth K (He.ga K "Painter") "many" (He.ma K (He.ga K "Painter") "many") := He.meth_ok (T.dsay.fact 78 (f := .meth "Painter" "many") rfl)
theorem Tx.mkP (T : Tx K mg) : Mk K (He.ga K "Painter") (He.ma K (He.ga K "Painter") "__init__") := He.mkr_ok (T.dsay.fact 79 (f := .mkr "Painter") rfl)
theorem Tx.x_NoPicture (T : Tx K mg) : PySem.W.excIn K (He.ga K "NoPicture") He.veBase "ValueError.__new__" = true ∧ PySem.W.keepIn K (.ref (He.ga K "NoPicture")) = true ∧ PySem.W.subIn K (.ref (He.ga K "NoPicture")) (.type "BaseException") = some true ∧ PySem.W.typeIn K (.ref (He.ga K "NoPicture")) = some (.type "type") := He.exc_ok (T.dsay.fact 80 (f := .exc "NoPicture") rfl)
theorem Tx.x_NoSpot (T : Tx K mg) : PySem.W.excIn K (He.ga K "NoSpot") He.veBase "ValueError.__new__" = true ∧ PySem.W.keepIn K (.ref (He.ga K "NoSpot")) = true ∧ PySem.W.subIn K (.ref (He.ga K "NoSpot")) (.type "BaseException") = some true ∧ PySem.W.typeIn K (.ref (He.ga K "NoSpot")) = some (.type "type") := He.exc_ok (T.dsay.fact 81 (f := .exc "NoSpot") rfl)
theorem Tx.x_BadBox (T : Tx K mg) : PySem.W.excIn K (He.ga K "BadBox") He.veBase "ValueError.__new__" = true ∧ PySem.W.keepIn K (.ref (He.ga K "BadBox")) = true ∧ PySem.W.subIn K (.ref (He.ga K "BadBox")) (.type "BaseException") = some true ∧ PySem.W.typeIn K (.ref (He.ga K "BadBox")) = some (.type "type") := He.exc_ok (T.dsay.fact 82 (f := .exc "BadBox") rfl)
theorem Tx.x_NothingDone (T : Tx K mg) : PySem.W.excIn K (He.ga K "NothingDone") He.veBase "ValueError.__new__" = true ∧ PySem.W.keepIn K (.ref (He.ga K "NothingDone")) = true ∧ PySem.W.subIn K (.ref (He.ga K "NothingDone")) (.type "BaseException") = some true ∧ PySem.W.typeIn K (.ref (He.ga K "NothingDone")) = some (.type "type") := He.exc_ok (T.dsay.fact 83 (f := .exc "NothingDone") rfl)
theorem Tx.e_NoPicture (T : Tx K mg) : PySem.W.exmOne K (.ref (He.ga K "NoPicture")) (.ref (He.ga K "FourError")) = some true := He.exm_ok (T.dsay.fact 84 (f := .exm "NoPicture" "FourError" true) rfl)
theorem Tx.e_NoSpot (T : Tx K mg) : PySem.W.exmOne K (.ref (He.ga K "NoSpot")) (.ref (He.ga K "FourError")) = some true := He.exm_ok (T.dsay.fact 85 (f := .exm "NoSpot" "FourError" true) rfl)
theorem Tx.e_BadBox (T : Tx K mg) : PySem.W.exmOne K (.ref (He.ga K "BadBox")) (.ref (He.ga K "FourError")) = some true := He.exm_ok (T.dsay.fact 86 (f := .exm "BadBox" "FourError" true) rfl)
theorem Tx.e_NothingDone (T : Tx K mg) : PySem.W.exmOne K (.ref (He.ga K "NothingDone")) (.ref (He.ga K "FourError")) = some true := He.exm_ok (T.dsay.fact 87 (f := .exm "NothingDone" "FourError" true) rfl)
theorem Tx.fn_is_worth (T : Tx K mg) : ∃ fd, FunD K d_is_worth.name d_is_worth.qual (defArgs s_is_worth) (defBody s_is_worth) (defScope s_is_worth) [] [] (He.fAd K d_is_worth.at_) fd := T.dsay.def_ 0 (d := d_is_worth) rfl
theorem Tx.fn_is_tree (T : Tx K mg) : ∃ fd, FunD K d_is_tree.name d_is_tree.qual (defArgs s_is_tree) (defBody s_is_tree) (defScope s_is_tree) [] [] (He.fAd K d_is_tree.at_) fd := T.dsay.def_ 1 (d := d_is_tree) rfl
theorem Tx.fn_is_picture (T : Tx K mg) : ∃ fd, FunD K d_is_picture.name d_is_picture.qual (defArgs s_is_picture) (defBody s_is_picture) (defScope s_is_picture) [] [] (He.fAd K d_is_picture.at_) fd := T.dsay.def_ 2 (d := d_is_picture) rfl
theorem Tx.fn_look_picture (T : Tx K mg) : ∃ fd, FunD K d_look_picture.name d_look_picture.qual (defArgs s_look_picture) (defBody s_look_picture) (defScope s_look_picture) [] [] (He.fAd K d_look_picture.at_) fd := T.dsay.def_ 3 (d := d_look_picture) rfl
theorem Tx.fn_quarter (T : Tx K mg) : ∃ fd, FunD K d_quarter.name d_quarter.qual (defArgs s_quarter) (defBody s_quarter) (defScope s_quarter) [] [] (He.fAd K d_quarter.at_) fd := T.dsay.def_ 4 (d := d_quarter) rfl
theorem Tx.fn_four (T : Tx K mg) : ∃ fd, FunD K d_four.name d_four.qual (defArgs s_four) (defBody s_four) (defScope s_four) [] [] (He.fAd K d_four.at_) fd := T.dsay.def_ 5 (d := d_four) rfl
theorem Tx.fn_lean_tree (T : Tx K mg) : ∃ fd, FunD K d_lean_tree.name d_lean_tree.qual (defArgs s_lean_tree) (defBody s_lean_tree) (defScope s_lean_tree) [] [] (He.fAd K d_lean_tree.at_) fd := T.dsay.def_ 6 (d := d_lean_tree) rfl
theorem Tx.fn_lean (T : Tx K mg) : ∃ fd, FunD K d_lean.name d_lean.qual (defArgs s_lean) (defBody s_lean) (defScope s_lean) [] [] (He.fAd K d_lean.at_) fd := T.dsay.def_ 7 (d := d_lean) rfl
theorem Tx.fn_look_spot (T : Tx K mg) : ∃ fd, FunD K d_look_spot.name d_look_spot.qual (defArgs s_look_spot) (defBody s_look_spot) (defScope s_look_spot) [] [] (He.fAd K d_look_spot.at_) fd := T.dsay.def_ 8 (d := d_look_spot) rfl
theorem Tx.fn_is_box_of (T : Tx K mg) : ∃ fd, FunD K d_is_box_of.name d_is_box_of.qual (defArgs s_is_box_of) (defBody s_is_box_of) (defScope s_is_box_of) [] [] (He.fAd K d_is_box_of.at_) fd := T.dsay.def_ 9 (d := d_is_box_of) rfl
theorem Tx.fn_look_box (T : Tx K mg) : ∃ fd, FunD K d_look_box.name d_look_box.qual (defArgs s_look_box) (defBody s_look_box) (defScope s_look_box) [] [] (He.fAd K d_look_box.at_) fd := T.dsay.def_ 10 (d := d_look_box) rfl
theorem Tx.fn_look_worth (T : Tx K mg) : ∃ fd, FunD K d_look_worth.name d_look_worth.qual (defArgs s_look_worth) (defBody s_look_worth) (defScope s_look_worth) [] [] (He.fAd K d_look_worth.at_) fd := T.dsay.def_ 11 (d := d_look_worth) rfl
theorem Tx.fn_overlap (T : Tx K mg) : ∃ fd, FunD K d_overlap.name d_overlap.qual (defArgs s_overlap) (defBody s_overlap) (defScope s_overlap) [] [] (He.fAd K d_overlap.at_) fd := T.dsay.def_ 12 (d := d_overlap) rfl
theorem Tx.fn_is_within (T : Tx K mg) : ∃ fd, FunD K d_is_within.name d_is_within.qual (defArgs s_is_within) (defBody s_is_within) (defScope s_is_within) [] [] (He.fAd K d_is_within.at_) fd := T.dsay.def_ 13 (d := d_is_within) rfl
theorem Tx.fn_filled_tree (T : Tx K mg) : ∃ fd, FunD K d_filled_tree.name d_filled_tree.qual (defArgs s_filled_tree) (defBody s_filled_tree) (defScope s_filled_tree) [] [] (He.fAd K d_filled_tree.at_) fd := T.dsay.def_ 14 (d := d_filled_tree) rfl
theorem Tx.fn_filled (T : Tx K mg) : ∃ fd, FunD K d_filled.name d_filled.qual (defArgs s_filled) (defBody s_filled) (defScope s_filled) [] [] (He.fAd K d_filled.at_) fd := T.dsay.def_ 15 (d := d_filled) rfl
theorem Tx.fn_put (T : Tx K mg) : ∃ fd, FunD K d_put.name d_put.qual (defArgs s_put) (defBody s_put) (defScope s_put) [] [] (He.fAd K d_put.at_) fd := T.dsay.def_ 16 (d := d_put) rfl
theorem Tx.fn_moved_tree (T : Tx K mg) : ∃ fd, FunD K d_moved_tree.name d_moved_tree.qual (defArgs s_moved_tree) (defBody s_moved_tree) (defScope s_moved_tree) [] [] (He.fAd K d_moved_tree.at_) fd := T.dsay.def_ 17 (d := d_moved_tree) rfl
theorem Tx.fn_turned (T : Tx K mg) : ∃ fd, FunD K d_turned.name d_turned.qual (defArgs s_turned) (defBody s_turned) (defScope s_turned) [] [] (He.fAd K d_turned.at_) fd := T.dsay.def_ 18 (d := d_turned) rfl
theorem Tx.fn_mirrored (T : Tx K mg) : ∃ fd, FunD K d_mirrored.name d_mirrored.qual (defArgs s_mirrored) (defBody s_mirrored) (defScope s_mirrored) [] [] (He.fAd K d_mirrored.at_) fd := T.dsay.def_ 19 (d := d_mirrored) rfl
theorem Tx.fn_by_way (T : Tx K mg) : ∃ fd, FunD K d_by_way.name d_by_way.qual (defArgs s_by_way) (defBody s_by_way) (defScope s_by_way) [] [] (He.fAd K d_by_way.at_) fd := T.dsay.def_ 20 (d := d_by_way) rfl
theorem Tx.fn_look_way (T : Tx K mg) : ∃ fd, FunD K d_look_way.name d_look_way.qual (defArgs s_look_way) (defBody s_look_way) (defScope s_look_way) [] [] (He.fAd K d_look_way.at_) fd := T.dsay.def_ 21 (d := d_look_way) rfl
theorem Tx.fn_law_cell (T : Tx K mg) : ∃ fd, FunD K d_law_cell.name d_law_cell.qual (defArgs s_law_cell) (defBody s_law_cell) (defScope s_law_cell) [] [] (He.fAd K d_law_cell.at_) fd := T.dsay.def_ 22 (d := d_law_cell) rfl
theorem Tx.fn_law_pick (T : Tx K mg) : ∃ fd, FunD K d_law_pick.name d_law_pick.qual (defArgs s_law_pick) (defBody s_law_pick) (defScope s_law_pick) [] [] (He.fAd K d_law_pick.at_) fd := T.dsay.def_ 23 (d := d_law_pick) rfl
theorem Tx.fn_law_tree (T : Tx K mg) : ∃ fd, FunD K d_law_tree.name d_law_tree.qual (defArgs s_law_tree) (defBody s_law_tree) (defScope s_law_tree) [] [] (He.fAd K d_law_tree.at_) fd := T.dsay.def_ 24 (d := d_law_tree) rfl
theorem Tx.fn_law_picture (T : Tx K mg) : ∃ fd, FunD K d_law_picture.name d_law_picture.qual (defArgs s_law_picture) (defBody s_law_picture) (defScope s_law_picture) [] [] (He.fAd K d_law_picture.at_) fd := T.dsay.def_ 25 (d := d_law_picture) rfl
theorem Tx.fn_law_rows_of (T : Tx K mg) : ∃ fd, FunD K d_law_rows_of.name d_law_rows_of.qual (defArgs s_law_rows_of) (defBody s_law_rows_of) (defScope s_law_rows_of) [] [] (He.fAd K d_law_rows_of.at_) fd := T.dsay.def_ 26 (d := d_law_rows_of) rfl
theorem Tx.fn_law_rows (T : Tx K mg) : ∃ fd, FunD K d_law_rows.name d_law_rows.qual (defArgs s_law_rows) (defBody s_law_rows) (defScope s_law_rows) [] [] (He.fAd K d_law_rows.at_) fd := T.dsay.def_ 27 (d := d_law_rows) rfl
theorem Tx.fn_law_least (T : Tx K mg) : ∃ fd, FunD K d_law_least.name d_law_least.qual (defArgs s_law_least) (defBody s_law_least) (defScope s_law_least) [] [] (He.fAd K d_law_least.at_) fd := T.dsay.def_ 28 (d := d_law_least) rfl
theorem Tx.fn_law_of (T : Tx K mg) : ∃ fd, FunD K d_law_of.name d_law_of.qual (defArgs s_law_of) (defBody s_law_of) (defScope s_law_of) [] [] (He.fAd K d_law_of.at_) fd := T.dsay.def_ 29 (d := d_law_of) rfl
theorem Tx.fn_law_places (T : Tx K mg) : ∃ fd, FunD K d_law_places.name d_law_places.qual (defArgs s_law_places) (defBody s_law_places) (defScope s_law_places) [] [] (He.fAd K d_law_places.at_) fd := T.dsay.def_ 30 (d := d_law_places) rfl
theorem Tx.fn_law_put (T : Tx K mg) : ∃ fd, FunD K d_law_put.name d_law_put.qual (defArgs s_law_put) (defBody s_law_put) (defScope s_law_put) [] [] (He.fAd K d_law_put.at_) fd := T.dsay.def_ 31 (d := d_law_put) rfl
theorem Tx.fn_law_there (T : Tx K mg) : ∃ fd, FunD K d_law_there.name d_law_there.qual (defArgs s_law_there) (defBody s_law_there) (defScope s_law_there) [] [] (He.fAd K d_law_there.at_) fd := T.dsay.def_ 32 (d := d_law_there) rfl
theorem Tx.fn_law_spoilt_thing (T : Tx K mg) : ∃ fd, FunD K d_law_spoilt_thing.name d_law_spoilt_thing.qual (defArgs s_law_spoilt_thing) (defBody s_law_spoilt_thing) (defScope s_law_spoilt_thing) [] [] (He.fAd K d_law_spoilt_thing.at_) fd := T.dsay.def_ 33 (d := d_law_spoilt_thing) rfl
theorem Tx.fn_law_is_picture (T : Tx K mg) : ∃ fd, FunD K d_law_is_picture.name d_law_is_picture.qual (defArgs s_law_is_picture) (defBody s_law_is_picture) (defScope s_law_is_picture) [] [] (He.fAd K d_law_is_picture.at_) fd := T.dsay.def_ 34 (d := d_law_is_picture) rfl
theorem Tx.fn_law_is_tree (T : Tx K mg) : ∃ fd, FunD K d_law_is_tree.name d_law_is_tree.qual (defArgs s_law_is_tree) (defBody s_law_is_tree) (defScope s_law_is_tree) [] [] (He.fAd K d_law_is_tree.at_) fd := T.dsay.def_ 35 (d := d_law_is_tree) rfl
theorem Tx.fn_law_word (T : Tx K mg) : ∃ fd, FunD K d_law_word.name d_law_word.qual (defArgs s_law_word) (defBody s_law_word) (defScope s_law_word) [] [] (He.fAd K d_law_word.at_) fd := T.dsay.def_ 36 (d := d_law_word) rfl
theorem Tx.fn_law_do (T : Tx K mg) : ∃ fd, FunD K d_law_do.name d_law_do.qual (defArgs s_law_do) (defBody s_law_do) (defScope s_law_do) [] [] (He.fAd K d_law_do.at_) fd := T.dsay.def_ 37 (d := d_law_do) rfl
theorem Tx.fn_law_turn (T : Tx K mg) : ∃ fd, FunD K d_law_turn.name d_law_turn.qual (defArgs s_law_turn) (defBody s_law_turn) (defScope s_law_turn) [] [] (He.fAd K d_law_turn.at_) fd := T.dsay.def_ 38 (d := d_law_turn) rfl
theorem Tx.fn_law (T : Tx K mg) : ∃ fd, FunD K d_law.name d_law.qual (defArgs s_law) (defBody s_law) (defScope s_law) [] [] (He.fAd K d_law.at_) fd := T.dsay.def_ 39 (d := d_law) rfl
theorem Tx.fn_Pinit (T : Tx K mg) : ∃ fd, FunD K d_Pinit.name d_Pinit.qual (defArgs s_Pinit) (defBody s_Pinit) (defScope s_Pinit) [] [] (He.fAd K d_Pinit.at_) fd := T.dsay.def_ 40 (d := d_Pinit) rfl
theorem Tx.fn_Pshown (T : Tx K mg) : ∃ fd, FunD K d_Pshown.name d_Pshown.qual (defArgs s_Pshown) (defBody s_Pshown) (defScope s_Pshown) [] [] (He.fAd K d_Pshown.at_) fd := T.dsay.def_ 41 (d := d_Pshown) rfl
theorem Tx.fn_Pnew_one (T : Tx K mg) : ∃ fd, FunD K d_Pnew_one.name d_Pnew_one.qual (defArgs s_Pnew_one) (defBody s_Pnew_one) (defScope s_Pnew_one) [] [] (He.fAd K d_Pnew_one.at_) fd := T.dsay.def_ 42 (d := d_Pnew_one) rfl
theorem Tx.fn_Pfill (T : Tx K mg) : ∃ fd, FunD K d_Pfill.name d_Pfill.qual (defArgs s_Pfill) (defBody s_Pfill) (defScope s_Pfill) [] [] (He.fAd K d_Pfill.at_) fd := T.dsay.def_ 43 (d := d_Pfill) rfl
theorem Tx.fn_Pdot (T : Tx K mg) : ∃ fd, FunD K d_Pdot.name d_Pdot.qual (defArgs s_Pdot) (defBody s_Pdot) (defScope s_Pdot) [] [] (He.fAd K d_Pdot.at_) fd := T.dsay.def_ 44 (d := d_Pdot) rfl
theorem Tx.fn_Pturn (T : Tx K mg) : ∃ fd, FunD K d_Pturn.name d_Pturn.qual (defArgs s_Pturn) (defBody s_Pturn) (defScope s_Pturn) [] [] (He.fAd K d_Pturn.at_) fd := T.dsay.def_ 45 (d := d_Pturn) rfl
theorem Tx.fn_Pundo (T : Tx K mg) : ∃ fd, FunD K d_Pundo.name d_Pundo.qual (defArgs s_Pundo) (defBody s_Pundo) (defScope s_Pundo) [] [] (He.fAd K d_Pundo.at_) fd := T.dsay.def_ 46 (d := d_Pundo) rfl
theorem Tx.fn_Predo (T : Tx K mg) : ∃ fd, FunD K d_Predo.name d_Predo.qual (defArgs s_Predo) (defBody s_Predo) (defScope s_Predo) [] [] (He.fAd K d_Predo.at_) fd := T.dsay.def_ 47 (d := d_Predo) rfl
theorem Tx.fn_Pmany (T : Tx K mg) : ∃ fd, FunD K d_Pmany.name d_Pmany.qual (defArgs s_Pmany) (defBody s_Pmany) (defScope s_Pmany) [] [] (He.fAd K d_Pmany.at_) fd := T.dsay.def_ 48 (d := d_Pmany) rfl
theorem Tx.t_SIDES (T : Tx K mg) (H : Hp) : SqT K H (He.ga K "SIDES") [.int 1, .int 2, .int 4, .int 8] := tupA_ok (He.ba T.more).1 H
theorem Tx.t_HALVES (T : Tx K mg) (H : Hp) : SqT K H (He.ga K "HALVES") [.ref (halfA K 0), .ref (halfA K 1), .ref (halfA K 2), .ref (halfA K 3)] := tupA_ok (He.ba (He.ba T.more).2).1 H
theorem Tx.t_half0 (T : Tx K mg) (H : Hp) : SqT K H (halfA K 0) [.int 0, .int 0] := tupA_ok (He.ba (He.ba (He.ba T.more).2).2).1 H
theorem Tx.t_half1 (T : Tx K mg) (H : Hp) : SqT K H (halfA K 1) [.int 1, .int 0] := tupA_ok (He.ba (He.ba (He.ba (He.ba T.more).2).2).2).1 H
theorem Tx.t_half2 (T : Tx K mg) (H : Hp) : SqT K H (halfA K 2) [.int 0, .int 1] := tupA_ok (He.ba (He.ba (He.ba (He.ba (He.ba T.more).2).2).2).2).1 H
theorem Tx.t_half3 (T : Tx K mg) (H : Hp) : SqT K H (halfA K 3) [.int 1, .int 1] := tupA_ok (He.ba (He.ba (He.ba (He.ba (He.ba (He.ba T.more).2).2).2).2).2).1 H
theorem Tx.isas (T : Tx K mg) {x y : Str} (hx : x ∈ raisd) (hy : y ∈ kinds) : PySem.W.kitOne K (.ref (He.ga K x)) (.ref (He.ga K y)) = some (decide (x = y)) := by
  have h := (He.ba (He.ba (He.ba (He.ba (He.ba (He.ba (He.ba T.more).2).2).2).2).2).2).1
  exact of_decide_eq_true (List.all_eq_true.mp (List.all_eq_true.mp h x hx) y hy)
theorem Tx.excC (T : Tx K mg) {x : Str} (hx : x ∈ raisd) : ExcC K (He.ga K x) := by
  have h := (He.ba (He.ba (He.ba (He.ba (He.ba (He.ba (He.ba (He.ba T.more).2).2).2).2).2).2).2).1
  exact excCB_ok (List.all_eq_true.mp h x hx)
theorem Tx.isVE (T : Tx K mg) {x : Str} (hx : x ∈ raisd) : PySem.W.kitOne K (.ref (He.ga K x)) (.type "ValueError") = some true := by
  have h := (He.ba (He.ba (He.ba (He.ba (He.ba (He.ba (He.ba (He.ba T.more).2).2).2).2).2).2).2).2
  exact of_decide_eq_true (List.all_eq_true.mp h x hx)
end
def names1 : List PySem.Str := ["FourError", "NoPicture", "NoSpot", "BadBox", "Unlike", "NoRule", "NoBlocks", "NoChange", "NoNumber", "NothingDone", "NoText", "SIDES", "GREATEST", "is_worth", "is_tree", "is_picture", "look_picture", "quarter", "four", "lean_tree", "lean", "look_spot", "HALVES", "is_box_of", "look_box", "look_worth", "overlap", "is_within", "filled_tree", "filled"]
def names2 : List PySem.Str := ["put", "WAYS", "moved_tree", "turned", "mirrored", "by_way", "look_way", "Painter", "_law_cell", "_law_pick", "_law_tree", "_law_picture", "_law_rows_of", "_law_rows", "_law_least", "_law_of", "_law_places", "_law_put", "_law_there", "_law_spoilt_thing", "_law_is_picture", "_law_is_tree", "_law_word", "_law_do", "_law_turn"]
def names : List PySem.Str := names1 ++ names2
end Ff
set_option Elab.async false
set_option linter.all false
set_option maxRecDepth 100000
set_option maxHeartbeats 0
namespace Ff
open PySem PySem.Spec PyProof.Rows L2
abbrev R : PySem.W.OpenRow := PySem.W.OpenLaw.row PySem.Challenge.rw_fourfold_k92_whole_painters
abbrev hk : PySem.W.Hook := hookF 5
def ob (s : PySem.W.SharedT) : AlF := obsFG 5 (HandSHeadRun.getT s)
theorem ob_eq (s : PySem.W.SharedT) : ob s = hk.obs s.abs := obsFG_eq (HandSHeadRun.getT_eq s)
theorem run (w : World) : HandSHeadRun.RunEq R (PySem.W.view R.prog [61]) hk ob 6000 names w := by
  intro os
  kernel_rfl
end Ff
set_option Elab.async false
set_option linter.all false
set_option maxRecDepth 100000
set_option maxHeartbeats 4000000
/-! Rules that the layer lacks. -/
namespace PySem
open Sem (wp)
/-- enumerate(v) of one argument, v told by what its iterator is -/
theorem fm_enumNew {v : Value} {o : Obj} {H : Heap → Prop} (B : Begins v o H) :
    Meets (Builtin.«enumerate.__new__» ⟨[.type "enumerate", v], []⟩) (fun _ R s => H s.heap ∧
      R (.ok (.ret (.ref (s.heap.push o).objs.size))) { s with heap := (s.heap.push o).push { cls := .type "enumerate", data := .fields #[.none, .bool false, .ref s.heap.objs.size, rawInt 0, .none, .none] } }) :=
  .of_wp fun prog w A R s hh => by
    obtain ⟨hp, g, d, tk, os⟩ := s
    obtain ⟨hH, hh⟩ := hh
    have hsub := sub_enumerate
    have itr : ∀ {A2 : Around} {E2 : Value → Shared → Prop} {Q2 : Value → Shared → Prop}, Q2 (.ref hp.objs.size) ⟨hp.push o, g, d, tk, os⟩ → wpAny (model prog w) A2 (pyIter v) Q2 E2 ⟨hp, g, d, tk, os⟩ :=
      fun z => B.iter prog w _ _ ⟨hp, g, d, tk, os⟩ _ hH z
    wp_walk using itr
    refine wpAny_stack_any fun st => wpAny_pure ?_
    split
    · rename_i c _ _ _ _ _
      cases (c == Value.type "enumerate")
      all_goals
        wp_walk using itr
        exact ⟨_, rfl, hh⟩
    · wp_walk using itr
      exact ⟨_, rfl, hh⟩
section
variable {prog : Program} {w : World} {A : Around} {E : Value → Shared → Prop} {s : Shared}
theorem fm_enumCall {v : Value} {o : Obj} {H : Heap → Prop} {Q : Value → Shared → Prop} (B : Begins v o H) (h1 : H s.heap)
    (h : ∀ hp', IsEnum hp' (s.heap.objs.size + 1) s.heap.objs.size 0 .none → hp'.get? s.heap.objs.size = some o →
      (∀ b ob, s.heap.get? b = some ob → hp'.get? b = some ob) → Q (.ref (s.heap.objs.size + 1)) { s with heap := hp' }) :
    wpAny (model prog w) A (call (.type "enumerate") [v]) Q E s := by
  refine callType_new F.called_enumerate (by decide) (F.typeCall_enumerate_1 _) (F.newCall_enumerate_1 _) (fun obj => F.args_object_init_2 obj _) F.entry_enumerate_new (fm_enumNew B) ⟨h1, ?_⟩
  have sz : (s.heap.push o).objs.size = s.heap.objs.size + 1 := Heap.size_push ..
  show _ ∧ _
  rw [sz]
  have en : IsEnum ((s.heap.push o).push { cls := .type "enumerate", data := .fields #[.none, .bool false, .ref s.heap.objs.size, rawInt 0, .none, .none] }) (s.heap.objs.size + 1) s.heap.objs.size 0 .none := by
    have z := Heap.get?_push_size (s.heap.push o) (o := { cls := .type "enumerate", data := .fields #[.none, .bool false, .ref s.heap.objs.size, rawInt 0, .none, .none] }) rfl
    rw [sz] at z
    exact z
  exact ⟨⟨_, en, rfl⟩, h _ en (Heap.get?_push_of_some _ (Heap.get?_push_size _ B.free)) fun b ob e => Heap.get?_push_of_some _ (Heap.get?_push_of_some _ e)⟩
end
end PySem
namespace Ff
open PySem PySem.Spec PyProof.Rows L2
/-! ### enumerate of a tuple -/
def ItN (K : PySem.W.Frag) (a : Addr) : It :=
  ⟨fun i H => ∃ (xs : List V) (x : V), SqT K H a xs ∧ xs[i]? = some x,
   fun i H v H' => ∃ t x, v = .ref t ∧ H t = none ∧ H' = upd H t (.tup [.int (i : Nat), x]) ∧ ∀ xs, SqT K H a xs → xs[i]? = some x,
   fun i H => ∃ xs : List V, SqT K H a xs ∧ xs.length ≤ i⟩
theorem turn_enumT {P : Program} {w : World} {K : PySem.W.Frag} {elts : List Expr} {kk : Nat} {tpos : Pos} (a e it : Addr) :
    Turn P w K (.Tuple elts kk tpos) (ItN K a) [e, it] e (fun i h => (∃ old, IsEnum h e it ((i : Nat) : Int) old) ∧ h.IsTupleIter it a i ∧ e ≠ it) where
  mem := by simp
  obj := fun i h st b hb => by
    obtain ⟨⟨old, he⟩, ⟨o, ho, hc, hd⟩, _⟩ := st
    have z : b = e ∨ b = it := by simpa using hb
    rcases z with z | z
    · rw [z]
      exact ⟨_, he, fun v q => nomatch q⟩
    · rw [z]
      exact ⟨o, ho, fun v q => by rw [hd] at q; cases q⟩
  keep := fun i h h' st k =>
    let ⟨⟨old, he⟩, hi, hne⟩ := st
    ⟨⟨old, k e (by simp) _ he⟩, hi.at fun o q => k it (by simp) o q, hne⟩
  item := by
    intro X hP hw hK hc i pins s σ H E I hf st hg
    subst hP hw hK
    obtain ⟨⟨old, he⟩, hit, hne⟩ := st
    obtain ⟨xs, x, hq, hx⟩ := hg
    obtain ⟨its, rv, p, hz⟩ := I.tuple hq
    obtain ⟨u, hu, ru⟩ := rv.get hx
    have hel : e < s.heap.objs.size := Heap.lt_size he
    have hil : it < s.heap.objs.size := by
      obtain ⟨_, z, _⟩ := hit
      exact Heap.lt_size z
    have p' : s.heap.IsTuple a its.toArray := p
    have hai : a ≠ it := fun z => by
      obtain ⟨o1, e1, c1, _⟩ := p'
      obtain ⟨o2, e2, c2, _⟩ := hit
      rw [z, e2] at e1
      cases e1
      rw [c2] at c1
      exact absurd c1 (by decide +kernel)
    have hae : e ∉ [it, a] := fun z => by
      have z2 : e = it ∨ e = a := by simpa using z
      rcases z2 with z2 | z2
      · exact hne z2
      · obtain ⟨o1, e1, c1, _⟩ := p'
        rw [← z2, he] at e1
        cases e1
        have c2 : Value.type "enumerate" = Value.type "tuple" := c1
        exact absurd c2 (by decide +kernel)
    have hh : X.A.in1.handled = none := I.ok.hd hc
    have hlt : i < its.toArray.size := by
      have z := (List.getElem?_eq_some_iff.mp hu).1
      simpa using z
    refine wpAny_pyNext_enum_itemD (Draws.tuple hh it a hai its.toArray) he ⟨hit, p'⟩ hlt hne hae fun y h' tk hy ho st' hT hsz hk => ?_
    have ey : y = u := by
      have z : its[i]? = some y := by simpa using hy
      rw [hu] at z
      exact (Option.some.inj z).symm
    subst ey
    refine ⟨_, rfl, wpAny_letOwnedTupleGo_enum (s := { s with heap := h', toks := tk + 1 }) ho fun h'' he' sb => ?_⟩
    have hT2 : h''.get? s.heap.objs.size = some { cls := .type "tuple", data := .seq #[.int i tk, y] } := (sb.2 _ (Nat.ne_of_gt hel)).trans hT
    have new : ObjOk X.prog X.w (upd H s.heap.objs.size (.tup [.int (i : Nat), x])) h'' s.heap.objs.size (.tup [.int (i : Nat), x]) :=
      ⟨by show 2 ≤ sizeLine; decide, [.int i tk, y], .cons ⟨_, rfl⟩ (.cons ru .nil), ⟨_, hT2, rfl, _, rfl⟩⟩
    have I1 : Inv X pins σ (upd H s.heap.objs.size (.tup [.int (i : Nat), x])) { s with heap := h'', toks := tk + 1 } :=
      I.turnedNew (ch := [e, it]) (fun b ob hb z => (sb.2 b (fun r => hb (by simp [r]))).trans (hk b ob (fun r => hb (by simp [r])) (fun r => hb (by simp [r])) z)) hf (Nat.le_refl _) new
    refine ⟨.ref s.heap.objs.size, _, I1, rfl, ⟨_, x, rfl, I.hok.fresh (Nat.le_refl _), rfl, fun ys hy => by rw [I.tuple_inj hy hq]; exact hx⟩, ⟨⟨y, ?_⟩, st'.1.at fun o z => (sb.2 it (Ne.symm hne)).trans z, hne⟩, fun b hb => ?_⟩
    · have e1 : ((i + 1 : Nat) : Int) = (i : Int) + 1 := by omega
      rw [e1]
      exact he'
    · have hb' : b < s.heap.objs.size := by
        have z : b = e ∨ b = it := by simpa using hb
        rcases z with z | z
        · rw [z]; exact hel
        · rw [z]; exact hil
      rw [upd_ne (Nat.ne_of_lt hb')]
      exact (hf b hb).1
  done := by
    intro X hP hw hK hc i pins s σ H E I hf st hg
    subst hP hw hK
    obtain ⟨⟨old, he⟩, hit, hne⟩ := st
    obtain ⟨xs, hq, hx⟩ := hg
    obtain ⟨its, rv, p, hz⟩ := I.tuple hq
    obtain ⟨f0, f1, f2, f3, f4, f5⟩ := hf it (by simp)
    have hh : X.A.in1.handled = none := I.ok.hd hc
    have hsz : its.toArray.size ≤ i := by
      have z := rv.length
      simp only [List.size_toArray]
      omega
    have hn : its.toArray[i]? = none := Array.getElem?_eq_none_iff.mpr hsz
    have D : Draws X.prog X.w X.A.in1 it [it, a] 0 (fun _ _ => False) (fun _ h => h.IsTupleIter it a i ∧ h.IsTuple a its.toArray) :=
      { live := fun _ _ st => let ⟨o, ho, _⟩ := st.1; ⟨o, ho⟩
        frame := fun _ _ _ st hk => ⟨st.1.at fun o z => hk it (by simp) o z, st.2.at fun o z => hk a (by simp) o z⟩
        item := fun j s Q E hj _ _ => absurd hj (Nat.not_lt_zero _)
        done := fun s Q E st hE => wpAny_nextOf_tuple_end hh st.1 st.2 hn hE }
    exact wpAny_pyNext_enum_endD D he ⟨hit, p⟩ fun h' eb => ⟨rfl, I.turned (t' := s.toks) (fun b o hb z => eb b o hb z) f0 f1 f3 f4 f5⟩
  self := fun A i s Q E st h => let ⟨⟨_, he⟩, _⟩ := st; wpAny_pyIter_enum he h
/-- enumerate(t), t a tuple -/
def iEnumT (K : PySem.W.Frag) (ta : TA) : TI := fun σ H R => ta σ H fun vs H1 => ∃ a xs, vs = [.ref a] ∧ SqT K H1 a xs ∧ R (ItN K a) H1
theorem pi_enumT {X : Cx} {e : Expr} {ta : TA} {p pos tpos : Pos} {elts : List Expr} {kk : Nat} (hg : Gl X "enumerate") (hm : X.mg "enumerate" = none) (ha : PA X [e] ta) (hs : starEach [e] X.env = [(false, eval e X.env)] := by rfl) :
    PI X (.Tuple elts kk tpos) (.Call (.Name "enumerate" p) [e] [] pos) (iEnumT X.K ta) := by
  refine ⟨fun pins s σ H R I h => ?_⟩
  refine Call_ (ld_blt I hg hm boot_enumerate (PyProof.Rows.callWith_type1 (thn (ha.run pos pins s σ H _ I h) fun us s1 ⟨vs, H1, I1, r1, q1⟩ => ?_) hs rfl))
  obtain ⟨a, xs, ex, hq, q⟩ := q1
  subst ex
  cases r1 with
  | cons r rr =>
    cases rr
    cases r
    obtain ⟨its, rv, p', hz⟩ := I1.tuple hq
    refine fm_enumCall (begins_tuple a its.toArray) p' fun h' he hit hk => wpAny_pyIter_enum he ?_
    have I2 : Inv X pins σ H1 { s1 with heap := h' } := I1.kept (t' := s1.toks) hk
    refine ⟨s1.heap.objs.size + 1, [s1.heap.objs.size + 1, s1.heap.objs.size], _, _, H1, rfl, I2, turn_enumT a (s1.heap.objs.size + 1) s1.heap.objs.size, ⟨⟨.none, he⟩, ⟨_, hit, rfl, rfl⟩, Nat.succ_ne_self _⟩, fun b hb => ?_, q⟩
    have z : b = s1.heap.objs.size + 1 ∨ b = s1.heap.objs.size := by simpa using hb
    have hle : s1.heap.objs.size ≤ b := by
      rcases z with z | z
      · rw [z]; exact Nat.le_add_right _ _
      · rw [z]; exact Nat.le_refl _
    exact I1.fpOk hle (I1.hok.fresh hle)
/-- the loop over it -/
theorem for_enumT {K : PySem.W.Frag} {a : Addr} {xs : List V} {g : TG} {tb : TS} {D : Ends} {σ : L2.St} {H : Hp} (Pv : Nat → L2.St → Hp → Prop) (h0 : Pv 0 σ H) (hl : ∀ i σ H, Pv i σ H → SqT K H a xs)
    (hs : ∀ (i : Nat) (x : V) (t : Addr) (σ : L2.St) (H : Hp), xs[i]? = some x → Pv i σ H → H t = none → g (.ref t) σ (upd H t (.tup [.int (i : Nat), x])) fun σ2 H2 => tb { D with nx := Pv (i + 1), ct := Pv (i + 1), bk := D.nx } σ2 H2)
    (hd : ∀ σ H, Pv xs.length σ H → D.nx σ H) :
    ∃ W : Nat → Nat → L2.St → Hp → Prop, (∃ m, W 0 m σ H) ∧ ∀ i m σ H, W i m σ H →
      ((ItN K a).stop i H ∧ D.nx σ H) ∨ ((ItN K a).go i H ∧ ∃ N : L2.St → Hp → Prop, (∀ σ' H', N σ' H' → ∃ m', m' < m ∧ W (i + 1) m' σ' H') ∧ ∀ x H', (ItN K a).yld i H x H' → g x σ H' fun σ2 H2 => tb { D with nx := N, ct := N, bk := D.nx } σ2 H2) := by
  refine ⟨fun i m σ H => m = xs.length - i ∧ i ≤ xs.length ∧ Pv i σ H, ⟨xs.length, rfl, Nat.zero_le _, h0⟩, ?_⟩
  rintro i m σ H ⟨rfl, hi, p⟩
  have hq := hl i σ H p
  by_cases hlt : i < xs.length
  · refine .inr ⟨⟨xs, xs[i], hq, List.getElem?_eq_getElem hlt⟩, Pv (i + 1), fun σ' H' z => ⟨xs.length - (i + 1), by omega, rfl, hlt, z⟩, fun v H' y => ?_⟩
    obtain ⟨t, x, rfl, hn, rfl, hx⟩ := y
    exact hs i x t σ H (hx xs hq) p hn
  · have e : i = xs.length := by omega
    subst e
    exact .inl ⟨⟨xs, hq, Nat.le_refl _⟩, hd σ H p⟩
/-! ### len(set(xs)) of whole numbers -/
def tLenSet (K : PySem.W.Frag) (ta : TE) : TE := fun σ H Q => ta σ H fun x H1 => ∃ (l : Addr) (ns : List Int), x = .ref l ∧ SqL K H1 l (ns.map V.int) ∧ ns.length ≤ 4000 ∧ Q (.int ((PyProof.Rows.firstMet (fun i => ns.getD i 0) ns.length).length : Nat)) H1
theorem fm_ints : ∀ {ns : List Int} {us : List Value}, Vals (ns.map V.int) us → PyProof.Rows.IntsAre us ns
  | [], _, .nil => .nil
  | n :: ns, _, .cons r t => by
    obtain ⟨k, rfl⟩ := r
    exact .cons n k (fm_ints t)
theorem pe_lenSet {X : Cx} {a : Expr} {ta : TE} {p p2 q pos : Pos} (hg : Gl X "len") (hm : X.mg "len" = none) (hg2 : Gl X "set") (hm2 : X.mg "set" = none) (ha : PE X a ta) (hc : X.calm = true := by rfl)
    (na : starEach [a] X.env = (false, eval a X.env) :: starEach [] X.env := by rfl) : PE X (.Call (.Name "len" p) [.Call (.Name "set" p2) [a] [] q] [] pos) (tLenSet X.K ta) := by
  refine ⟨fun pins s σ H Q I h => ?_⟩
  refine Call_ (ld_blt I hg hm boot_len ?_)
  refine PyProof.Rows.callWith_builtin1 (PyProof.Rows.args_cons ?_ rfl) rfl rfl
  refine Call_ (ld_blt I hg2 hm2 boot_set ?_)
  refine PyProof.Rows.callWith_type1 (PyProof.Rows.args_cons (thn (ha.run pins s σ H _ I h) fun v s1 ⟨x, H1, I1, r1, q1⟩ => PyProof.Rows.args_nil ?_) na) na rfl
  obtain ⟨l, ns, rfl, hq, hl, q1⟩ := q1
  cases r1
  obtain ⟨its, r, pl, hz⟩ := I1.list hq
  have hlen : its.toArray.size = ns.length := by rw [List.size_toArray, ← r.length, List.length_map]
  refine call_set_list (I1.ok.hd hc) pl.isList (by simpa using fm_ints r) (by rw [hlen]; unfold scanBound; omega) fun h' tk hS hk => ?_
  refine PyProof.Rows.args_nil ?_
  rw [hlen] at hS
  have hle := PyProof.Rows.firstMet_length_le (fun i => ns.getD i 0) ns.length
  obtain ⟨o, es, ep, t, ho, hex, hd, _, _, _, hf, hn⟩ := hS
  have I2 : Inv X pins σ H1 { s1 with heap := h', toks := tk } := I1.kept fun b o e => hk b o (Heap.lt_size e) e
  exact call_len_set ho hex hd hf (by rw [hn] <;> omega) ⟨.int _, H1, I2.tok _, ⟨_, by rw [hn]⟩, q1⟩
theorem firstMet_one {f : Nat → Int} {c : Int} : ∀ {i : Nat}, 0 < i → (∀ j, j < i → f j = c) → PyProof.Rows.firstMet f i = [c]
  | 0, h, _ => absurd h (Nat.lt_irrefl _)
  | 1, _, h => by
    rw [PyProof.Rows.firstMet_succ, PyProof.Rows.firstMet_zero, h 0 (by omega)]
    rfl
  | i + 2, _, h => by
    rw [PyProof.Rows.firstMet_succ, firstMet_one (Nat.succ_pos i) fun j hj => h j (by omega), h (i + 1) (by omega)]
    unfold step_dedup
    rw [if_pos (by simp)]
theorem firstMet_all {f : Nat → Int} {i : Nat} (h : (PyProof.Rows.firstMet f i).length = 1) : ∀ j k, j < i → k < i → f j = f k := by
  obtain ⟨c, e⟩ := List.length_eq_one_iff.mp h
  have key : ∀ j, j < i → f j = c := fun j hj => by
    have z := PyProof.Rows.firstMet_any f i (f j)
    rw [e] at z
    have z2 : ((List.range i).map f).any (· == f j) = true := List.any_eq_true.mpr ⟨f j, List.mem_map.mpr ⟨j, List.mem_range.mpr hj, rfl⟩, beq_self_eq_true _⟩
    rw [z2] at z
    have z3 : c = f j := by simpa using z.symm
    exact z3.symm
  exact fun j k hj hk => (key j hj).trans (key k hk).symm
/-! ### list.count of a flat thing -/
def rCntV (K : PySem.W.Frag) : V → List V → Hp → VK → Prop := fun x xs H Q => ∃ (p : Addr) (ys : List V) (y : V), x = .ref p ∧ xs = [y] ∧ SqL K H p ys ∧ flatV y = true ∧ ys.all flatV = true ∧ Q (.int (ys.countP (fun z => eqV z y) : Nat)) H
theorem countP_eqU {x : V} : ∀ {xs : List V} {us : List Value}, Vals xs us → xs.all flatV = true → us.countP (eqU x) = xs.countP fun y => eqV y x
  | _, _, .nil, _ => rfl
  | y :: xs, u :: us, .cons r t, f => by
    rw [List.all_cons, Bool.and_eq_true] at f
    rw [List.countP_cons, List.countP_cons, eqU_of r f.1, countP_eqU t f.2]
theorem mt_countV {X : Cx} : MtR X "list.count" (rCntV X.K) := by
  intro pins s σ H x xs v us Q I rx rxs h
  obtain ⟨p, ys, y, rfl, rfl, hs, fy, fs, q⟩ := h
  cases rx
  obtain ⟨u, rfl, ru⟩ := rxs.one
  obtain ⟨its, rv, ⟨⟨cls, dd, data, sl⟩, n, ho, hc, hdn, hd⟩, hlen⟩ := I.list hs
  simp only at hc hd
  subst hc hd
  refine call_meets PySem.F.slot_list_count ⟨_, ho, rfl⟩ PySem.F.entry_list_count (PySem.F.args_list_count_2 _ _)
    (SeqAt.list_countAt p its.toArray n dd sl u (eqU y)) ⟨ho, fun z hz => mem_eqAt ru fy rv fs z (by simpa using hz), ?_⟩
  have ec : its.toArray.toList.countP (eqU y) = ys.countP fun z => eqV z y := countP_eqU rv fs
  refine ⟨.int (ys.countP (fun z => eqV z y) : Nat), H, I.tok _, ⟨s.toks, ?_⟩, q⟩
  show Value.int ((its.toArray.toList.countP (eqU y) : Nat) : Int) s.toks = Value.int ((ys.countP (fun z => eqV z y) : Nat) : Int) s.toks
  rw [ec]
end Ff
set_option Elab.async false
set_option linter.all false
set_option maxRecDepth 100000
set_option maxHeartbeats 2000000
namespace Ff
open PySem PySem.Spec PyProof.Rows L2
/-! ### built-ins by name -/
theorem b_isinstance : bootBuiltins "isinstance" = some (.builtin "isinstance") := by decide +kernel
theorem b_int : bootBuiltins "int" = some (.type "int") := by decide +kernel
theorem b_bool : bootBuiltins "bool" = some (.type "bool") := by decide +kernel
theorem b_tuple : bootBuiltins "tuple" = some (.type "tuple") := by decide +kernel
theorem b_len : bootBuiltins "len" = some (.builtin "len") := by decide +kernel
theorem b_all : bootBuiltins "all" = some (.builtin "all") := by decide +kernel
theorem b_max : bootBuiltins "max" = some (.builtin "max") := by decide +kernel
theorem b_min : bootBuiltins "min" = some (.builtin "min") := by decide +kernel
theorem b_ValueError : bootBuiltins "ValueError" = some (.type "ValueError") := by decide +kernel
/-! ### data that stays -/
theorem same_sqT {K : PySem.W.Frag} {H H' : Hp} {a : Addr} {xs : List V} (e : Same H H') (h : SqT K H a xs) : SqT K H' a xs := by
  rcases h with (h | ⟨o, h⟩) | h
  · exact .inl (.inl (e _ _ h))
  · exact .inl (.inr ⟨o, e _ _ h⟩)
  · exact .inr h
mutual
theorem dp_mono {K : PySem.W.Frag} {H H' : Hp} (hT : ∀ a xs, SqT K H a xs → SqT K H' a xs) (hL : ∀ a xs, SqL K H a xs → SqL K H' a xs) : ∀ {d : PyData} {v : V}, Dp K H v d → Dp K H' v d
  | .none, _, h => by cases h; exact .non
  | .bool _, _, h => by cases h; exact .bl _
  | .int _, _, h => by cases h; exact .int _
  | .str _, _, h => by cases h; exact .str _
  | .list ds, _, h => by
    cases h with
    | lst a b => exact .lst (hL _ _ a) (dpAll_mono hT hL b)
  | .tuple ds, _, h => by
    cases h with
    | tup a b => exact .tup (hT _ _ a) (dpAll_mono hT hL b)
  | .dict _, _, h => by cases h
theorem dpAll_mono {K : PySem.W.Frag} {H H' : Hp} (hT : ∀ a xs, SqT K H a xs → SqT K H' a xs) (hL : ∀ a xs, SqL K H a xs → SqL K H' a xs) : ∀ {ds : List PyData} {vs : List V}, DpAll K H vs ds → DpAll K H' vs ds
  | [], _, h => by cases h; exact .nil
  | d :: ds, _, h => by
    cases h with
    | cons a b => exact .cons (dp_mono hT hL a) (dpAll_mono hT hL b)
end
theorem dp_same {K : PySem.W.Frag} {H H' : Hp} (e : Same H H') {d : PyData} {v : V} (h : Dp K H v d) : Dp K H' v d := dp_mono (fun _ _ z => same_sqT e z) (fun _ _ z => e.seq z) h
theorem dpAll_same {K : PySem.W.Frag} {H H' : Hp} (e : Same H H') {ds : List PyData} {vs : List V} (h : DpAll K H vs ds) : DpAll K H' vs ds := dpAll_mono (fun _ _ z => same_sqT e z) (fun _ _ z => e.seq z) h
theorem same_upd {H : Hp} {p : Addr} {o : HO} (h : H p = none) : Same H (upd H p o) := fun b u e => by
  rw [upd_ne (ne_of_none e h)]
  exact e
theorem dpAll_len {K : PySem.W.Frag} {H : Hp} : ∀ {vs : List V} {ds : List PyData}, DpAll K H vs ds → vs.length = ds.length
  | _, _, .nil => rfl
  | _, _, .cons _ b => congrArg Nat.succ (dpAll_len b)
theorem dpAll_get {K : PySem.W.Frag} {H : Hp} : ∀ {vs : List V} {ds : List PyData}, DpAll K H vs ds → ∀ {i : Nat} {v : V}, vs[i]? = some v → ∃ d, ds[i]? = some d ∧ Dp K H v d
  | _, _, .nil, i, v, e => by simp at e
  | _, _, .cons a b, 0, v, e => by
    simp only [List.getElem?_cons_zero, Option.some.injEq] at e
    subst e
    exact ⟨_, rfl, a⟩
  | _, _, .cons a b, i + 1, v, e => by
    simp only [List.getElem?_cons_succ] at e ⊢
    exact dpAll_get b e
theorem dpAll_getD {K : PySem.W.Frag} {H : Hp} : ∀ {vs : List V} {ds : List PyData}, DpAll K H vs ds → ∀ {i : Nat} {d : PyData}, ds[i]? = some d → ∃ v, vs[i]? = some v ∧ Dp K H v d
  | _, _, .nil, i, v, e => by simp at e
  | _, _, .cons a b, 0, v, e => by
    simp only [List.getElem?_cons_zero, Option.some.injEq] at e
    subst e
    exact ⟨_, rfl, a⟩
  | _, _, .cons a b, i + 1, v, e => by
    simp only [List.getElem?_cons_succ] at e ⊢
    exact dpAll_getD b e
theorem dp_tup {K : PySem.W.Frag} {H : Hp} {v : V} {ds : List PyData} (h : Dp K H v (.tuple ds)) : ∃ p xs, v = .ref p ∧ SqT K H p xs ∧ DpAll K H xs ds := by
  cases h with
  | tup a b => exact ⟨_, _, rfl, a, b⟩
theorem dp_leaf {K : PySem.W.Frag} {H : Hp} {v : V} {i : Int} (h : Dp K H v (T.leaf i).d) : v = .int i := by
  have h' : Dp K H v (.int i) := h
  cases h'
  rfl
theorem dp_node {K : PySem.W.Frag} {H : Hp} {v : V} {a b c d : T} (h : Dp K H v (T.node a b c d).d) :
    ∃ p va vb vc vd, v = .ref p ∧ SqT K H p [va, vb, vc, vd] ∧ Dp K H va a.d ∧ Dp K H vb b.d ∧ Dp K H vc c.d ∧ Dp K H vd d.d := by
  obtain ⟨p, xs, e, s, r⟩ := dp_tup (ds := [a.d, b.d, c.d, d.d]) h
  cases r with
  | cons r1 r =>
    cases r with
    | cons r2 r =>
      cases r with
      | cons r3 r =>
        cases r with
        | cons r4 r =>
          cases r
          exact ⟨p, _, _, _, _, e, s, r1, r2, r3, r4⟩
theorem dp_mk {K : PySem.W.Frag} {H : Hp} {p : Addr} {va vb vc vd : V} {a b c d : T} (s : SqT K H p [va, vb, vc, vd]) (h1 : Dp K H va a.d) (h2 : Dp K H vb b.d) (h3 : Dp K H vc c.d) (h4 : Dp K H vd d.d) : Dp K H (.ref p) (T.node a b c d).d :=
  Dp.tup (ds := [a.d, b.d, c.d, d.d]) s (.cons h1 (.cons h2 (.cons h3 (.cons h4 .nil))))
theorem dp_pd {K : PySem.W.Frag} {H : Hp} {v : V} {n : Nat} {t : T} (h : Dp K H v (pd n t)) : ∃ p w, v = .ref p ∧ SqT K H p [.int n, w] ∧ Dp K H w t.d := by
  obtain ⟨p, xs, e, s, r⟩ := dp_tup (ds := [.int n, t.d]) h
  cases r with
  | cons r1 r =>
    cases r with
    | cons r2 r =>
      cases r
      cases r1
      exact ⟨p, _, e, s, r2⟩
theorem pd_mk {K : PySem.W.Frag} {H : Hp} {p : Addr} {w : V} {n : Nat} {t : T} (s : SqT K H p [.int n, w]) (h : Dp K H w t.d) : Dp K H (.ref p) (pd n t) := Dp.tup (ds := [.int n, t.d]) s (.cons (.int _) (.cons h .nil))
/-! ### kinds -/
def tyN : PyData → String
  | .none => "NoneType"
  | .bool _ => "bool"
  | .int _ => "int"
  | .str _ => "str"
  | .list _ => "list"
  | .tuple _ => "tuple"
  | .dict _ => "dict"
theorem tyx_tup {K : PySem.W.Frag} {H : Hp} {a : Addr} {xs : List V} (h : SqT K H a xs) : TyX K H (.ref a) (.type "tuple") := by
  rcases h with (h | ⟨o, h⟩) | ⟨o, its, n, hk, hc, _⟩
  · exact .base (.tup h)
  · exact .fTuple h
  · exact .kTuple hk hc
theorem tyx_lst {K : PySem.W.Frag} {H : Hp} {a : Addr} {xs : List V} (h : SqL K H a xs) : TyX K H (.ref a) (.type "list") := by
  rcases h with (h | ⟨o, h⟩) | ⟨o, its, n, hk, hc, _⟩
  · exact .base (.lst h)
  · exact .base (.frz h)
  · exact .kList hk hc
theorem dp_ty {K : PySem.W.Frag} {H : Hp} {v : V} {d : PyData} (h : Dp K H v d) : TyX K H v (.type (tyN d)) := by
  cases h with
  | non => exact .base .non
  | bl b => exact .base (.bl b)
  | int i => exact .base (.int i)
  | str x => exact .base (.str x)
  | lst a b => exact tyx_lst a
  | tup a b => exact tyx_tup a
def isI : PyData → Bool
  | .int _ => true
  | .bool _ => true
  | _ => false
def isB : PyData → Bool
  | .bool _ => true
  | _ => false
def isU : PyData → Bool
  | .tuple _ => true
  | _ => false
theorem kI {K : PySem.W.Frag} {H : Hp} {v : V} {d : PyData} (h : Dp K H v d) : PySem.W.kitOne K (.type (tyN d)) (.type "int") = some (isI d) := by
  cases h with
  | non => exact kit_ty (a := "NoneType") (b := "int") (r := false) (by decide +kernel)
  | bl b => exact kit_ty (a := "bool") (b := "int") (r := true) (by decide +kernel)
  | int i => exact kit_ty (a := "int") (b := "int") (r := true) (by decide +kernel)
  | str x => exact kit_ty (a := "str") (b := "int") (r := false) (by decide +kernel)
  | lst a b => exact kit_ty (a := "list") (b := "int") (r := false) (by decide +kernel)
  | tup a b => exact kit_ty (a := "tuple") (b := "int") (r := false) (by decide +kernel)
theorem kB {K : PySem.W.Frag} {H : Hp} {v : V} {d : PyData} (h : Dp K H v d) : PySem.W.kitOne K (.type (tyN d)) (.type "bool") = some (isB d) := by
  cases h with
  | non => exact kit_ty (a := "NoneType") (b := "bool") (r := false) (by decide +kernel)
  | bl b => exact kit_ty (a := "bool") (b := "bool") (r := true) (by decide +kernel)
  | int i => exact kit_ty (a := "int") (b := "bool") (r := false) (by decide +kernel)
  | str x => exact kit_ty (a := "str") (b := "bool") (r := false) (by decide +kernel)
  | lst a b => exact kit_ty (a := "list") (b := "bool") (r := false) (by decide +kernel)
  | tup a b => exact kit_ty (a := "tuple") (b := "bool") (r := false) (by decide +kernel)
theorem kU {K : PySem.W.Frag} {H : Hp} {v : V} {d : PyData} (h : Dp K H v d) : PySem.W.kitOne K (.type (tyN d)) (.type "tuple") = some (isU d) := by
  cases h with
  | non => exact kit_ty (a := "NoneType") (b := "tuple") (r := false) (by decide +kernel)
  | bl b => exact kit_ty (a := "bool") (b := "tuple") (r := false) (by decide +kernel)
  | int i => exact kit_ty (a := "int") (b := "tuple") (r := false) (by decide +kernel)
  | str x => exact kit_ty (a := "str") (b := "tuple") (r := false) (by decide +kernel)
  | lst a b => exact kit_ty (a := "list") (b := "tuple") (r := false) (by decide +kernel)
  | tup a b => exact kit_ty (a := "tuple") (b := "tuple") (r := true) (by decide +kernel)
/-- isinstance(x, n) of data -/
def rIs (K : PySem.W.Frag) (n : String) (f : PyData → Bool) : List V → Hp → VK → Prop := fun xs H Q => ∃ v d, xs = [v, .ty n] ∧ Dp K H v d ∧ Q (.bl (f d)) H
theorem call_isD {X : Cx} {n : String} {f : PyData → Bool} (hf : ∀ {H : Hp} {v : V} {d : PyData}, Dp X.K H v d → PySem.W.kitOne X.K (.type (tyN d)) (.type n) = some (f d)) : CallR X (.builtin "isinstance") (rIs X.K n f) := by
  intro pins s σ H xs us Q I r h
  obtain ⟨v, d, rfl, hd, q⟩ := h
  exact call_isi pins s σ H _ us Q I r ⟨v, .ty n, _, _, _, rfl, .ty _, dp_ty hd, hf hd, q⟩
section
variable {X : Cx} {e : Expr} {te : TE} {p p2 pos : Pos}
def tIs (K : PySem.W.Frag) (te : TE) (n : String) (f : PyData → Bool) : TE := tCB (rIs K n f) (tCons te (tCons (tC (.ty n)) tNil))
theorem pe_isI (zi : X.mg "isinstance" = none) (zt : X.mg "int" = none) (he : PE X e te) (hg : Gl X "isinstance" := by rfl) (hg2 : Gl X "int" := by rfl)
    (hs : starEach [e, .Name "int" p2] X.env = (false, eval e X.env) :: starEach [.Name "int" p2] X.env := by rfl) (hpl : (backTo pos (starEach [.Name "int" p2] X.env)).any (·.1) = false := by rfl) :
    PE X (.Call (.Name "isinstance" p) [e, .Name "int" p2] [] pos) (tIs X.K te "int" isI) :=
  pe_callB (call_isD kI) hg zi b_isinstance (pa_cons he (pa_cons (pe_bltn (v := .ty "int") hg2 zt b_int rfl) pa_nil) hs) (by decide) (by decide) hs hpl
theorem pe_isB (zi : X.mg "isinstance" = none) (zt : X.mg "bool" = none) (he : PE X e te) (hg : Gl X "isinstance" := by rfl) (hg2 : Gl X "bool" := by rfl)
    (hs : starEach [e, .Name "bool" p2] X.env = (false, eval e X.env) :: starEach [.Name "bool" p2] X.env := by rfl) (hpl : (backTo pos (starEach [.Name "bool" p2] X.env)).any (·.1) = false := by rfl) :
    PE X (.Call (.Name "isinstance" p) [e, .Name "bool" p2] [] pos) (tIs X.K te "bool" isB) :=
  pe_callB (call_isD kB) hg zi b_isinstance (pa_cons he (pa_cons (pe_bltn (v := .ty "bool") hg2 zt b_bool rfl) pa_nil) hs) (by decide) (by decide) hs hpl
theorem pe_isU (zi : X.mg "isinstance" = none) (zt : X.mg "tuple" = none) (he : PE X e te) (hg : Gl X "isinstance" := by rfl) (hg2 : Gl X "tuple" := by rfl)
    (hs : starEach [e, .Name "tuple" p2] X.env = (false, eval e X.env) :: starEach [.Name "tuple" p2] X.env := by rfl) (hpl : (backTo pos (starEach [.Name "tuple" p2] X.env)).any (·.1) = false := by rfl) :
    PE X (.Call (.Name "isinstance" p) [e, .Name "tuple" p2] [] pos) (tIs X.K te "tuple" isU) :=
  pe_callB (call_isD kU) hg zi b_isinstance (pa_cons he (pa_cons (pe_bltn (v := .ty "tuple") hg2 zt b_tuple rfl) pa_nil) hs) (by decide) (by decide) hs hpl
end
/-! ### a def by its name -/
structure Has (P : Program) (w : World) (K : PySem.W.Frag) (mg : Str → Option Value) (base : Heap) (CX : CXT) (k : Nat) (x : Str) (ps : List Str) (sp : Sp) : Prop where
  gl : mg x = some (.ref (He.ga K x))
  kp : PySem.W.keepIn K (.ref (He.ga K x)) = true
  fn : ∃ fd, Binds K fd ps [] ∧ FnOk P w K mg base CX k (He.ga K x) fd ps sp
theorem Has.mono {P : Program} {w : World} {K : PySem.W.Frag} {mg : Str → Option Value} {base : Heap} {CX : CXT} {j k : Nat} {x : Str} {ps : List Str} {sp : Sp} (h : Has P w K mg base CX j x ps sp) (hk : j ≤ k) : Has P w K mg base CX k x ps sp :=
  ⟨h.gl, h.kp, let ⟨fd, b, f⟩ := h.fn; ⟨fd, b, f.mono hk⟩⟩
theorem Has.imp {P : Program} {w : World} {K : PySem.W.Frag} {mg : Str → Option Value} {base : Heap} {CX : CXT} {k : Nat} {x : Str} {ps : List Str} {sp sp' : Sp} (h : Has P w K mg base CX k x ps sp) (hi : ∀ vs H Q E, sp' vs H Q E → sp vs H Q E) : Has P w K mg base CX k x ps sp' :=
  ⟨h.gl, h.kp, let ⟨fd, b, f⟩ := h.fn; ⟨fd, b, f.imp hi⟩⟩
section
variable {X : Cx} {CX : CXT} {k : Nat} {x : Str} {ps : List Str} {sp : Sp} {E : XK} {p pos : Pos} {e : Expr} {es : List Expr} {t : TA}
/-- f(e, ..) -/
theorem pe_h (h : Has X.prog X.w X.K X.mg X.base CX k x ps sp) (hr : Room k X.A) (hx : Passes CX X E) (ha : PA X (e :: es) t) (hg : Gl X x := by rfl) (hdb : (x == ("__debug__" : Str)) = false := by decide)
    (he : starEach (e :: es) X.env = (false, eval e X.env) :: starEach es X.env := by rfl) (hpl : (backTo pos (starEach es X.env)).any (·.1) = false := by rfl) : PE X (.Call (.Name x p) (e :: es) [] pos) (tCall sp [] E t) := by
  obtain ⟨fd, b, f⟩ := h.fn
  exact pe_call f hr hg h.gl h.kp b .nil hx ha hdb he hpl
/-- .. that raises nothing -/
theorem pe_h0 (h : Has X.prog X.w X.K X.mg X.base CX0 k x ps sp) (hr : Room k X.A) (ha : PA X (e :: es) t) (hg : Gl X x := by rfl) (hdb : (x == ("__debug__" : Str)) = false := by decide)
    (he : starEach (e :: es) X.env = (false, eval e X.env) :: starEach es X.env := by rfl) (hpl : (backTo pos (starEach es X.env)).any (·.1) = false := by rfl) : PE X (.Call (.Name x p) (e :: es) [] pos) (tCall sp [] E0 t) := pe_h h hr pass0 ha hg hdb he hpl
end
end Ff
set_option Elab.async false
set_option linter.all false
set_option maxRecDepth 100000
set_option maxHeartbeats 2000000
namespace Ff
open PySem PySem.Spec PyProof.Rows L2
/-! ### comprehensions whose items are told one by one -/
/-- all but the list at D stands -/
def But (D : Addr) (H H' : Hp) : Prop := ∀ a o, a ≠ D → H a = some o → H' a = some o
theorem But.of {D : Addr} {H H' : Hp} (e : Same H H') : But D H H' := fun a o _ h => e a o h
theorem but_upd {D : Addr} {H : Hp} {o : HO} : But D H (upd H D o) := fun a u ne e => by
  rw [upd_ne ne]
  exact e
theorem but_sqT {K : PySem.W.Frag} {D : Addr} {H H' : Hp} {acc : List V} (hD : H D = some (.lst acc)) (b : But D H H') {a : Addr} {xs : List V} (h : SqT K H a xs) : SqT K H' a xs := by
  rcases h with (h | ⟨o, h⟩) | h
  · exact .inl (.inl (b _ _ (ne_of h hD (by intro z; cases z)) h))
  · exact .inl (.inr ⟨o, b _ _ (ne_of h hD (by intro z; cases z)) h⟩)
  · exact .inr h
/-- a tree stands where the tuples stand -/
theorem dp_tree {K : PySem.W.Frag} {H H' : Hp} (hT : ∀ a xs, SqT K H a xs → SqT K H' a xs) : ∀ {t : T} {v : V}, Dp K H v t.d → Dp K H' v t.d
  | .leaf i, v, h => by
    rw [dp_leaf h]
    exact .int _
  | .node a b c d, v, h => by
    obtain ⟨p, va, vb, vc, vd, rfl, s, h1, h2, h3, h4⟩ := dp_node h
    exact dp_mk (hT _ _ s) (dp_tree hT h1) (dp_tree hT h2) (dp_tree hT h3) (dp_tree hT h4)
theorem dp_pic {K : PySem.W.Frag} {H H' : Hp} (hT : ∀ a xs, SqT K H a xs → SqT K H' a xs) {n : Nat} {t : T} {v : V} (h : Dp K H v (pd n t)) : Dp K H' v (pd n t) := by
  obtain ⟨p, u, rfl, s, h1⟩ := dp_pd h
  exact pd_mk (hT _ _ s) (dp_tree hT h1)
theorem but_tree {K : PySem.W.Frag} {D : Addr} {H H' : Hp} {acc : List V} (hD : H D = some (.lst acc)) (b : But D H H') {t : T} {v : V} (h : Dp K H v t.d) : Dp K H' v t.d := dp_tree (fun _ _ z => but_sqT hD b z) h
section
variable {K : PySem.W.Frag} {a : Addr} {xs : List V} {te : TE} {vs : List Nat} {σ : L2.St} {H1 : Hp} {D : Addr} {Qd : Hp → Prop} {i0 : Nat}
/-- what holds behind i items -/
def LcP (H1 : Hp) (D : Addr) (R : Nat → V → Hp → Prop) (i : Nat) (H : Hp) : Prop := Same H1 H ∧ ∃ acc, H D = some (.lst acc) ∧ acc.length = i ∧ ∀ j y, acc[j]? = some y → R j y H
theorem lcp_start {R : Nat → V → Hp → Prop} (hn : H1 D = none) : LcP H1 D R 0 (upd H1 D (.lst [])) := ⟨same_upd hn, [], upd_same, rfl, fun j y e => by simp at e⟩
theorem lcp_step {R : Nat → V → Hp → Prop} (hm : ∀ i v H H' acc, H D = some (.lst acc) → But D H H' → R i v H → R i v H') (hn : H1 D = none) {i : Nat} {H H' : Hp} (hz : i < sizeLine) (p : LcP H1 D R i H) (s : Same H H') {y : V} (r : R i y H') :
    ∃ acc, H' D = some (.lst acc) ∧ acc.length < sizeLine ∧ LcP H1 D R (i + 1) (upd H' D (.lst (acc ++ [y]))) := by
  obtain ⟨p1, acc, hD, hl, hr⟩ := p
  have hD' := s _ _ hD
  refine ⟨acc, hD', by omega, fun b o e => ?_, acc ++ [y], upd_same, by rw [List.length_append, hl]; rfl, fun j z e => ?_⟩
  · rw [upd_ne (ne_of_none e hn)]
    exact s _ _ (p1 _ _ e)
  · refine hm _ _ _ _ acc hD' but_upd ?_
    by_cases hj : j < acc.length
    · rw [List.getElem?_append_left hj] at e
      exact hm _ _ _ _ acc hD (But.of s) (hr j z e)
    · rw [List.getElem?_append_right (by omega)] at e
      have hj0 : j - acc.length = 0 := by
        by_cases z0 : j - acc.length = 0
        · exact z0
        · rw [List.getElem?_eq_none (by simp only [List.length_cons, List.length_nil]; omega)] at e
          cases e
      rw [hj0] at e
      have e1 : y = z := Option.some.inj e
      have e2 : j = i := by omega
      rw [e2, ← e1]
      exact r
theorem lc_tupR (R : Nat → V → Hp → Prop) (hm : ∀ i v H H' acc, H D = some (.lst acc) → But D H H' → R i v H → R i v H') (hn : H1 D = none) (hq : SqT K H1 a xs) (hz : xs.length ≤ 1000)
    (hw : ∀ x, wipe ((wipe σ vs).set i0 (some x)) vs = wipe σ vs)
    (turn : ∀ j x H Q, xs[j]? = some x → Same H1 H → (∀ y H', Same H H' → R j y H' → Q y H') → te ((wipe σ vs).set i0 (some x)) H Q)
    (hd : ∀ ys H, Same H1 H → H D = some (.lst ys) → ys.length = xs.length → (∀ j y, ys[j]? = some y → R j y H) → Qd H) :
    ∃ W : Nat → Nat → Hp → Prop, (∃ m, W 0 m (upd H1 D (.lst []))) ∧ ∀ i m H, W i m H →
      ((Itt K a).stop i H ∧ Qd H) ∨ ((Itt K a).go i H ∧ ∃ Nx : Hp → Prop, (∀ H', Nx H' → ∃ m', m' < m ∧ W (i + 1) m' H') ∧ ∀ x H', (Itt K a).yld i H x H' → gName i0 x (wipe σ vs) H' fun σ2 H2 => wipe σ2 vs = wipe σ vs ∧ tYes σ2 H2 fun b H3 =>
        if b = true then te σ2 H3 fun y H4 => ∃ acc, H4 D = some (.lst acc) ∧ acc.length < sizeLine ∧ Nx (upd H4 D (.lst (acc ++ [y]))) else Nx H3) := by
  refine lc_tup (K := K) (a := a) (xs := xs) (LcP H1 D R) (lcp_start hn) (fun i H _ p => same_sqT p.1 hq) (fun i x H e p => ?_) (fun H p => ?_)
  · have hi : i < xs.length := (List.getElem?_eq_some_iff.mp e).1
    have hs : sizeLine = 16777216 := sizeLine_eq
    exact ⟨hw x, iteT (B := LcP H1 D R (i + 1) H) (turn i x H _ e p.1 fun y H' s r => lcp_step hm hn (by omega) p s r)⟩
  · obtain ⟨p1, acc, hD, hl, hr⟩ := p
    exact hd acc H p1 hD hl hr
theorem lc_listR (R : Nat → V → Hp → Prop) (hm : ∀ i v H H' acc, H D = some (.lst acc) → But D H H' → R i v H → R i v H') (hn : H1 D = none) (hq : SqL K H1 a xs) (hz : xs.length ≤ 1000)
    (hw : ∀ x, wipe ((wipe σ vs).set i0 (some x)) vs = wipe σ vs)
    (turn : ∀ j x H Q, xs[j]? = some x → Same H1 H → (∀ y H', Same H H' → R j y H' → Q y H') → te ((wipe σ vs).set i0 (some x)) H Q)
    (hd : ∀ ys H, Same H1 H → H D = some (.lst ys) → ys.length = xs.length → (∀ j y, ys[j]? = some y → R j y H) → Qd H) :
    ∃ W : Nat → Nat → Hp → Prop, (∃ m, W 0 m (upd H1 D (.lst []))) ∧ ∀ i m H, W i m H →
      ((Itl K a).stop i H ∧ Qd H) ∨ ((Itl K a).go i H ∧ ∃ Nx : Hp → Prop, (∀ H', Nx H' → ∃ m', m' < m ∧ W (i + 1) m' H') ∧ ∀ x H', (Itl K a).yld i H x H' → gName i0 x (wipe σ vs) H' fun σ2 H2 => wipe σ2 vs = wipe σ vs ∧ tYes σ2 H2 fun b H3 =>
        if b = true then te σ2 H3 fun y H4 => ∃ acc, H4 D = some (.lst acc) ∧ acc.length < sizeLine ∧ Nx (upd H4 D (.lst (acc ++ [y]))) else Nx H3) := by
  refine lc_list (K := K) (a := a) (xs := xs) (LcP H1 D R) (lcp_start hn) (fun i H _ p => p.1.seq hq) (fun i x H e p => ?_) (fun H p => ?_)
  · have hi : i < xs.length := (List.getElem?_eq_some_iff.mp e).1
    have hs : sizeLine = 16777216 := sizeLine_eq
    exact ⟨hw x, iteT (B := LcP H1 D R (i + 1) H) (turn i x H _ e p.1 fun y H' s r => lcp_step hm hn (by omega) p s r)⟩
  · obtain ⟨p1, acc, hD, hl, hr⟩ := p
    exact hd acc H p1 hD hl hr
theorem lc_rangeR {lo : Int} {n : Nat} (R : Nat → V → Hp → Prop) (hm : ∀ i v H H' acc, H D = some (.lst acc) → But D H H' → R i v H → R i v H') (hn : H1 D = none) (hz : n ≤ 1000)
    (hw : ∀ x, wipe ((wipe σ vs).set i0 (some x)) vs = wipe σ vs)
    (turn : ∀ (j : Nat) H Q, j < n → Same H1 H → (∀ y H', Same H H' → R j y H' → Q y H') → te ((wipe σ vs).set i0 (some (.int (lo + j)))) H Q)
    (hd : ∀ ys H, Same H1 H → H D = some (.lst ys) → ys.length = n → (∀ j y, ys[j]? = some y → R j y H) → Qd H) :
    ∃ W : Nat → Nat → Hp → Prop, (∃ m, W 0 m (upd H1 D (.lst []))) ∧ ∀ i m H, W i m H →
      ((Itr lo n).stop i H ∧ Qd H) ∨ ((Itr lo n).go i H ∧ ∃ Nx : Hp → Prop, (∀ H', Nx H' → ∃ m', m' < m ∧ W (i + 1) m' H') ∧ ∀ x H', (Itr lo n).yld i H x H' → gName i0 x (wipe σ vs) H' fun σ2 H2 => wipe σ2 vs = wipe σ vs ∧ tYes σ2 H2 fun b H3 =>
        if b = true then te σ2 H3 fun y H4 => ∃ acc, H4 D = some (.lst acc) ∧ acc.length < sizeLine ∧ Nx (upd H4 D (.lst (acc ++ [y]))) else Nx H3) := by
  refine lc_range (lo := lo) (n := n) (LcP H1 D R) (lcp_start hn) (fun i H hi p => ?_) (fun H p => ?_)
  · have hs : sizeLine = 16777216 := sizeLine_eq
    exact ⟨hw _, iteT (B := LcP H1 D R (i + 1) H) (turn i H _ hi p.1 fun y H' s r => lcp_step hm hn (by omega) p s r)⟩
  · obtain ⟨p1, acc, hD, hl, hr⟩ := p
    exact hd acc H p1 hD hl hr
end
/-- a list of told things -/
theorem list_of {α : Type} {ys : List V} {n : Nat} {f : Nat → α} {g : α → V} (hl : ys.length = n) (h : ∀ j y, ys[j]? = some y → y = g (f j)) : ys = ((List.range n).map f).map g := by
  apply List.ext_getElem?
  intro j
  by_cases hj : j < n
  · rw [List.getElem?_eq_getElem (by omega), List.getElem?_map, List.getElem?_map, List.getElem?_range hj]
    have z := h j ys[j] (List.getElem?_eq_getElem (by omega))
    rw [z]
    rfl
  · rw [List.getElem?_eq_none (by omega), List.getElem?_eq_none (by simp; omega)]
end Ff
set_option Elab.async false
set_option linter.all false
set_option maxRecDepth 100000
set_option maxHeartbeats 2000000
namespace Ff
open PySem PySem.Spec PyProof.Rows L2
section
variable {P : Program} {w : World} {K : PySem.W.Frag} {mg : Str → Option Value} {base : Heap}
/-- a def that lets nothing out -/
theorem has_n {x : Str} {st : Stmt} {fd : FuncData} {N ps : List Str} {k : Nat} {sp : Sp} (F : FunD K x x (defArgs st) (defBody st) (defScope st) [] [] (He.ga K x) fd) (g : mg x = some (.ref (He.ga K x))) (S : FnScope N ps (defScope st))
    (hb : ∀ (kV doc pm : Value) (an : Option Addr) (cdv ct : Value) (us : List Value), us.length = ps.length → bindArgs (PySem.W.fnOf x x (defArgs st) (defBody st) (defScope st) .none kV doc pm an cdv ct) ⟨us, []⟩ = pure (ps.zip us))
    (len : ∀ vs H Q E, sp vs H Q E → vs.length = ps.length)
    (hbody : ∀ (cdv : Value) (A : Around) (outer : List Env) (s : Shared) (H : Hp) (vs : List V) (Q : VK) (E : XK), Room k (A.deeper (envOfC x (defScope st) s.heap.objs.size (He.ga K x) cdv)) → sp vs H Q E →
      ∃ t, PSs (cxOf CX0 P w K mg base N x (defScope st) (He.ga K x) cdv A outer s H E).nox (defBody st) t ∧ t { nx := fun _ H' => Q .non H', rt := Q } (start N vs) H) : Has P w K mg base CX0 (k + 1) x ps sp :=
  ⟨g, F.kp, fd, F.bindsN hb, F.ok S len fun cdv A outer s H vs Q E hr h => let ⟨t, h1, h2⟩ := hbody cdv A outer s H vs Q E hr h; ⟨t, h1.nox, h2⟩⟩
/-- a def that may raise -/
theorem has_x {x : Str} {st : Stmt} {fd : FuncData} {N ps : List Str} {k : Nat} {sp : Sp} (F : FunD K x x (defArgs st) (defBody st) (defScope st) [] [] (He.ga K x) fd) (g : mg x = some (.ref (He.ga K x))) (S : FnScope N ps (defScope st))
    (hb : ∀ (kV doc pm : Value) (an : Option Addr) (cdv ct : Value) (us : List Value), us.length = ps.length → bindArgs (PySem.W.fnOf x x (defArgs st) (defBody st) (defScope st) .none kV doc pm an cdv ct) ⟨us, []⟩ = pure (ps.zip us))
    (len : ∀ vs H Q E, sp vs H Q E → vs.length = ps.length)
    (hbody : ∀ (cdv : Value) (A : Around) (outer : List Env) (s : Shared) (H : Hp) (vs : List V) (Q : VK) (E : XK), Room k (A.deeper (envOfC x (defScope st) s.heap.objs.size (He.ga K x) cdv)) → sp vs H Q E →
      ∃ t, PSs (cxOf (L2.CX P w) P w K mg base N x (defScope st) (He.ga K x) cdv A outer s H E) (defBody st) t ∧ t { nx := fun _ H' => Q .non H', rt := Q } (start N vs) H) : Has P w K mg base (L2.CX P w) (k + 1) x ps sp :=
  ⟨g, F.kp, fd, F.bindsN hb, F.ok S len hbody⟩
/-- what is promised one level down -/
def dn (sp : Nat → Sp) : Nat → Sp
  | 0 => fun _ _ _ _ => False
  | m + 1 => sp m
theorem has_false {CX : CXT} {x : Str} {st : Stmt} {fd : FuncData} {ps : List Str} {k : Nat} (F : FunD K x x (defArgs st) (defBody st) (defScope st) [] [] (He.ga K x) fd) (g : mg x = some (.ref (He.ga K x)))
    (hb : ∀ (kV doc pm : Value) (an : Option Addr) (cdv ct : Value) (us : List Value), us.length = ps.length → bindArgs (PySem.W.fnOf x x (defArgs st) (defBody st) (defScope st) .none kV doc pm an cdv ct) ⟨us, []⟩ = pure (ps.zip us)) :
    Has P w K mg base CX k x ps (fun _ _ _ _ => False) := ⟨g, F.kp, fd, F.bindsN hb, ⟨fun _ _ _ _ z => z.elim, fun _ _ _ _ _ _ _ _ _ _ _ _ _ z => z.elim⟩⟩
theorem has_rec {CX : CXT} {x : Str} {ps : List Str} {sp : Nat → Sp} {c : Nat} (h0 : Has P w K mg base CX c x ps (fun _ _ _ _ => False)) (step : ∀ m, Has P w K mg base CX (m + c) x ps (dn sp m) → Has P w K mg base CX (m + c + 1) x ps (sp m)) :
    ∀ m, Has P w K mg base CX (m + c + 1) x ps (sp m) := by
  intro m
  induction m with
  | zero => exact step 0 (h0.mono (by omega))
  | succ m ih => exact step (m + 1) (ih.mono (by omega))
/-! ### is_worth -/
theorem sc_is_worth : FnScope ["thing"] ["thing"] (defScope s_is_worth) := ⟨rfl, rfl, rfl, by decide +kernel, rfl, by decide +kernel, by decide +kernel⟩
def spIsWorth (K : PySem.W.Frag) : Sp := fun vs H Q _ => ∃ v d, vs = [v] ∧ Dp K H v d ∧ Q (.bl (isT 0 d)) H
theorem h_is_worth (T : Tx K mg) : Has P w K mg base CX0 1 "is_worth" ["thing"] (spIsWorth K) := by
  obtain ⟨fd, F⟩ := T.fn_is_worth
  obtain ⟨tg, hg⟩ := T.i_GREATEST
  refine has_n (st := s_is_worth) F T.g_is_worth sc_is_worth (fun _ _ _ _ _ _ us hl => match us, hl with | [_], _ => rfl) (fun vs H Q E h => ?_) (fun cdv A outer s H vs Q E hr h => ?_)
  · obtain ⟨v, d, rfl, _⟩ := h
    rfl
  · obtain ⟨v, d, rfl, hd, k⟩ := h
    refine ⟨_, pss_one (ps_ret (pe_and (pe_isI T.z_isinstance T.z_int (pv 0)) (pe_and (pe_not (pe_isB T.z_isinstance T.z_bool (pv 0)))
      (pe_one (pe_chain op_le op_le pe_int (pv 0) (pe_glob (v := .int 9) rfl hg ⟨_, rfl⟩)))))), ?_⟩
    refine ⟨_, rfl, _, _, rfl, hd, _, rfl, ?_⟩
    cases d with
    | int i =>
      refine iteT ⟨_, rfl, _, _, rfl, hd, _, rfl, _, rfl, iteT ?_⟩
      have ev : v = .int i := by cases hd; rfl
      subst ev
      refine ⟨_, rfl, _, _, rfl, rfl, _, rfl, ?_⟩
      have e : isT 0 (.int i) = (decide (0 ≤ i) && decide (i ≤ 9)) := rfl
      rw [e] at k
      by_cases c : 0 ≤ i
      · rw [decide_eq_true c] at k ⊢
        exact iteT ⟨_, _, rfl, rfl, k⟩
      · rw [decide_eq_false c] at k ⊢
        exact iteF k
    | bool b => exact iteT ⟨_, rfl, _, _, rfl, hd, _, rfl, _, rfl, iteF k⟩
    | _ => exact iteF k
/-! ### is_tree -/
theorem sc_is_tree : FnScope ["thing", "size", "part"] ["thing", "size"] (defScope s_is_tree) := ⟨rfl, rfl, rfl, by decide +kernel, rfl, by decide +kernel, by decide +kernel⟩
def spIsTree (K : PySem.W.Frag) (m : Nat) : Sp := fun vs H Q _ => ∃ (v : V) (d : PyData) (n : Nat), vs = [v, .int n] ∧ n ≤ m ∧ Dp K H v d ∧ ∀ H', Same H H' → Q (.bl (isT n d)) H'
theorem isT_zero {n : Nat} {d : PyData} (h : isT 0 d = true) : isT n d = true := by
  cases d with
  | int i => cases n <;> exact h
  | _ => exact (Bool.false_ne_true h).elim
theorem isT_no0 {d : PyData} (h : ¬ isT 0 d = true) : isT 0 d = false := Bool.eq_false_iff.mpr h
theorem isT_noU {n : Nat} {d : PyData} (h : ¬ isT 0 d = true) (hu : isU d = false) : isT n d = false := by
  cases d with
  | int i => cases n <;> exact Bool.eq_false_iff.mpr h
  | tuple ds => exact absurd hu (by intro z; cases z)
  | _ => cases n <;> rfl
theorem st_is_tree (T : Tx K mg) (m : Nat) (IH : Has P w K mg base CX0 (m + 1) "is_tree" ["thing", "size"] (dn (spIsTree K) m)) : Has P w K mg base CX0 (m + 1 + 1) "is_tree" ["thing", "size"] (spIsTree K m) := by
  obtain ⟨fd, F⟩ := T.fn_is_tree
  refine has_n (st := s_is_tree) F T.g_is_tree sc_is_tree (fun _ _ _ _ _ _ us hl => match us, hl with | [_, _], _ => rfl) (fun vs H Q E h => ?_) (fun cdv A outer s H vs Q E hr h => ?_)
  · obtain ⟨v, d, n, rfl, _⟩ := h
    rfl
  · obtain ⟨v, d, n, rfl, hn, hd, k⟩ := h
    have nd := sc_is_tree.nd
    refine ⟨_, pss_cons (ps_if (pt_val (pe_h0 (h_is_worth T) (hr.mono (by omega)) (pa_cons (pv 0) pa_nil))) (pss_one (ps_ret pe_bl)) pss_nil)
      (pss_cons (ps_if (PW.pt (pw_or (pt_cmpR op_eq (pv 1) pe_int (nomark _)) (pw_or (pt_not (pt_val (pe_isU T.z_isinstance T.z_tuple (pv 0)))) (pw_or1 (pt_cmpR op_ne (pe_callB call_len_seq (by rfl) T.z_len b_len (pa_cons (pv 0) pa_nil)) pe_int (nomark _)))))) (pss_one (ps_ret pe_bl)) pss_nil)
      (pss_one (ps_ret (pe_callB (cr_all rfl) (by rfl) T.z_all b_all (pa_cons (pe_lc (own := [("part", 2)]) (g := gName 2) (tt := tYes) rfl nd (pi_tup (pv 0)) (blkOk_by (N := ["thing", "size", "part"]) (sc := defScope s_is_tree) (by decide +kernel))
        (fun _ _ _ _ _ => pg_name (i := 2) nd rfl (Or.inl rfl)) (fun _ _ _ _ _ => pts_nil) (fun _ _ _ _ _ => pe_h0 IH hr (pa_cons (pv 2) (pa_cons (pe_op op_sub (pv 1) pe_int) pa_nil)))) pa_nil))))), ?_⟩
    refine ⟨_, rfl, v, d, rfl, hd, _, rfl, ?_⟩
    refine ite2 (fun c => ?_) (fun c => ?_)
    · have z := k H (Same.refl _)
      rw [isT_zero c] at z
      exact z
    · refine ⟨_, rfl, rfl, _, rfl, ?_⟩
      cases n with
      | zero =>
        refine iteT (iteT ?_)
        have z := k H (Same.refl _)
        rw [isT_no0 c] at z
        exact z
      | succ n =>
        have e0 : decide (V.int ((n + 1 : Nat) : Int) = V.int 0) = false := decide_eq_false (by
          intro z
          injection z with z
          omega)
        rw [e0]
        refine iteF ⟨_, rfl, v, d, rfl, hd, _, rfl, ?_⟩
        cases hu : isU d with
        | false =>
          refine iteT (iteT ?_)
          have z := k H (Same.refl _)
          rw [isT_noU c hu] at z
          exact z
        | true =>
          refine iteF ?_
          cases d with
          | tuple ds =>
            obtain ⟨p, xs, rfl, hs, ha⟩ := dp_tup hd
            have el := dpAll_len ha
            refine ⟨_, rfl, p, xs, rfl, .inr hs, rfl, _, rfl, ?_⟩
            have et : isT (n + 1) (.tuple ds) = (ds.length == 4 && ds.all (isT n)) := rfl
            by_cases c4 : ds.length = 4
            · have e4 : (!decide (V.int (xs.length : Nat) = V.int 4)) = false := by
                rw [el, c4]
                rfl
              rw [e4]
              refine iteF ?_
              refine ⟨_, rfl, p, rfl, ⟨xs, hs⟩, fun D hD => ?_⟩
              refine lc_tupR (K := K) (xs := xs) (fun j y H => ∃ d', ds[j]? = some d' ∧ y = .bl (isT n d')) (fun _ _ _ _ _ _ _ z => z) hD hs (by omega) (fun _ => rfl) ?_ ?_
              · intro j x H' Q' hx s' kq
                obtain ⟨d', e', h'⟩ := dpAll_get ha hx
                obtain ⟨m', rfl⟩ : ∃ m', m = m' + 1 := ⟨m - 1, by omega⟩
                refine ⟨_, rfl, _, rfl, _, _, rfl, rfl, x, d', n, ?_, by omega, dp_same s' h', fun H2 s2 => kq _ H2 s2 ⟨d', e', rfl⟩⟩
                have e1 : ((n + 1 : Nat) : Int) - 1 = (n : Int) := by omega
                show [x, V.int (((n + 1 : Nat) : Int) - 1)] = [x, V.int (n : Int)]
                rw [e1]
              · intro ys H' s' hy hl hr'
                have ey : ys = (ds.map (isT n)).map V.bl := by
                  apply List.ext_getElem?
                  intro j
                  by_cases hj : j < ys.length
                  · obtain ⟨d', e', z⟩ := hr' j ys[j] (List.getElem?_eq_getElem hj)
                    rw [List.getElem?_eq_getElem hj, List.getElem?_map, List.getElem?_map, e', z]
                    rfl
                  · rw [List.getElem?_eq_none (by omega), List.getElem?_eq_none (by simp; omega)]
                refine ⟨D, ds.map (isT n), rfl, SqL.of (by rw [hy, ey]), ?_⟩
                have z := k H' s'
                rw [et, c4] at z
                have e5 : (ds.map (isT n)).all id = ds.all (isT n) := by rw [List.all_map]; rfl
                rw [e5]
                exact z
            · have e4 : (!decide (V.int (xs.length : Nat) = V.int 4)) = true := by
                rw [el]
                have : ¬ V.int (ds.length : Nat) = V.int 4 := by
                  intro z
                  injection z with z
                  omega
                rw [decide_eq_false this]
                rfl
              rw [e4]
              refine iteT ?_
              have z := k H (Same.refl _)
              have e5 : (ds.length == 4) = false := beq_eq_false_iff_ne.mpr c4
              rw [et, e5] at z
              exact z
          | _ => cases hu
theorem h_is_tree (T : Tx K mg) (m : Nat) : Has P w K mg base CX0 (m + 1 + 1) "is_tree" ["thing", "size"] (spIsTree K m) := by
  obtain ⟨fd, F⟩ := T.fn_is_tree
  exact has_rec (has_false (st := s_is_tree) F T.g_is_tree (fun _ _ _ _ _ _ us hl => match us, hl with | [_, _], _ => rfl)) (fun m => st_is_tree T m) m
end
end Ff
set_option Elab.async false
set_option linter.all false
set_option maxRecDepth 100000
set_option maxHeartbeats 2000000
namespace Ff
open PySem PySem.Spec PyProof.Rows L2
section
variable {P : Program} {w : World} {K : PySem.W.Frag} {mg : Str → Option Value} {base : Heap}
/-! ### is_picture -/
theorem sc_is_picture : FnScope ["thing", "size"] ["thing"] (defScope s_is_picture) := ⟨rfl, rfl, rfl, by decide +kernel, rfl, by decide +kernel, by decide +kernel⟩
def spIsPic (K : PySem.W.Frag) : Sp := fun vs H Q _ => ∃ (v : V) (d : PyData), vs = [v] ∧ Dp K H v d ∧ ∀ H', Same H H' → Q (.bl (isP d)) H'
theorem isP_noU {d : PyData} (h : isU d = false) : isP d = false := by
  cases d with
  | tuple ds => exact absurd h (by intro z; cases z)
  | _ => rfl
theorem isP_no2 {ds : List PyData} (h : ds.length ≠ 2) : isP (.tuple ds) = false := by
  match ds, h with
  | [], _ => rfl
  | [_], _ => unfold isP; split <;> first | rfl | (rename_i e; injection e with e; injection e with _ e; cases e)
  | [_, _], h => exact absurd rfl h
  | _ :: _ :: _ :: _, _ => unfold isP; split <;> first | rfl | (rename_i e; injection e with e; injection e with _ e; injection e with _ e; cases e)
theorem isP_noI {a b : PyData} (h : isI a = false ∨ isB a = true) : isP (.tuple [a, b]) = false := by
  cases a with
  | int n => rcases h with h | h <;> cases h
  | _ => rfl
theorem isP_int (n : Int) (b : PyData) : isP (.tuple [.int n, b]) = (decide (0 ≤ n) && (decide (n < 4) && isT n.toNat b)) := rfl
theorem isI_int {a : PyData} (h1 : isI a = true) (h2 : isB a = false) : ∃ n, a = .int n := by
  cases a with
  | int n => exact ⟨n, rfl⟩
  | bool b => cases h2
  | _ => cases h1
theorem h_is_picture (T : Tx K mg) : Has P w K mg base CX0 6 "is_picture" ["thing"] (spIsPic K) := by
  obtain ⟨fd, F⟩ := T.fn_is_picture
  refine has_n (st := s_is_picture) F T.g_is_picture sc_is_picture (fun _ _ _ _ _ _ us hl => match us, hl with | [_], _ => rfl) (fun vs H Q E h => ?_) (fun cdv A outer s H vs Q E hr h => ?_)
  · obtain ⟨v, d, rfl, _⟩ := h
    rfl
  · obtain ⟨v, d, rfl, hd, k⟩ := h
    have nd := sc_is_picture.nd
    refine ⟨_, pss_cons (ps_if (PW.pt (pw_or (pt_not (pt_val (pe_isU T.z_isinstance T.z_tuple (pv 0)))) (pw_or1 (pt_cmpR op_ne (pe_callB call_len_seq (by rfl) T.z_len b_len (pa_cons (pv 0) pa_nil)) pe_int (nomark _))))) (pss_one (ps_ret pe_bl)) pss_nil)
      (pss_cons (ps_set (i := 1) nd rfl (Or.inl rfl) (pe_ix ix_tup (pv 0) pe_int (fun _ _ => rfl)))
      (pss_cons (ps_if (PW.pt (pw_or (pt_not (pt_val (pe_isI T.z_isinstance T.z_int (pv 1)))) (pw_or (pt_val (pe_isB T.z_isinstance T.z_bool (pv 1)))
        (pw_or1 (pt_not (pt_chain op_le op_lt pe_int (pv 1) (pe_callB call_len_seq (by rfl) T.z_len b_len (pa_cons (pe_glob (v := .ref (He.ga K "SIDES")) rfl T.g_SIDES rfl) pa_nil)))))))) (pss_one (ps_ret pe_bl)) pss_nil)
      (pss_one (ps_ret (pe_h0 (h_is_tree T 3) hr (pa_cons (pe_ix ix_tup (pv 0) pe_int (fun _ _ => rfl)) (pa_cons (pv 1) pa_nil))))))), ?_⟩
    refine ⟨_, rfl, v, d, rfl, hd, _, rfl, ?_⟩
    have no : isP d = false → Q (.bl false) H := fun e => by
      have z := k H (Same.refl _)
      rw [e] at z
      exact z
    cases hu : isU d with
    | false => exact iteT (iteT (no (isP_noU hu)))
    | true =>
      refine iteF ?_
      cases d with
      | tuple ds =>
        obtain ⟨p, xs, rfl, hs, ha⟩ := dp_tup hd
        have el := dpAll_len ha
        refine ⟨_, rfl, p, xs, rfl, .inr hs, rfl, _, rfl, ?_⟩
        by_cases c2 : ds.length = 2
        · have e2 : (!decide (V.int (xs.length : Nat) = V.int 2)) = false := by
            rw [el, c2]
            rfl
          rw [e2]
          refine iteF ?_
          match ds, c2, ha, hs, hd, el with
          | [a, b], _, ha, hs, hd, _ =>
            cases ha with
            | cons ra ha =>
              cases ha with
              | cons rb ha =>
                cases ha
                refine ⟨_, rfl, p, _, _, _, rfl, rfl, hs, rfl, ?_⟩
                refine ⟨_, rfl, _, _, rfl, ra, _, rfl, ?_⟩
                cases h1 : isI a with
                | false => exact iteT (iteT (no (isP_noI (.inl h1))))
                | true =>
                  refine iteF ⟨_, rfl, _, _, rfl, ra, _, rfl, ?_⟩
                  cases h2 : isB a with
                  | true => exact iteT (iteT (no (isP_noI (.inr h2))))
                  | false =>
                    refine iteF ?_
                    obtain ⟨n, rfl⟩ := isI_int h1 h2
                    cases ra
                    refine ⟨_, rfl, _, _, rfl, rfl, _, rfl, ?_⟩
                    have ek := isP_int n b
                    by_cases c3 : 0 ≤ n
                    · rw [decide_eq_true c3] at ek ⊢
                      refine iteT ⟨_, _, rfl, .inr (T.t_SIDES _), _, _, rfl, rfl, _, rfl, ?_⟩
                      by_cases c4 : n < 4
                      · have c5 : decide (n < (([V.int 1, V.int 2, V.int 4, V.int 8] : List V).length : Int)) = true := decide_eq_true c4
                        rw [c5]
                        rw [decide_eq_true c4] at ek
                        refine iteF ?_
                        refine ⟨_, rfl, p, _, _, _, rfl, rfl, hs, rfl, _, rfl, _, b, n.toNat, ?_, by omega, rb, fun H' s' => ?_⟩
                        · show [_, V.int n] = [_, V.int (n.toNat : Int)]
                          rw [Int.toNat_of_nonneg c3]
                        · have z := k H' s'
                          rw [ek] at z
                          exact z
                      · have c5 : decide (n < (([V.int 1, V.int 2, V.int 4, V.int 8] : List V).length : Int)) = false := decide_eq_false c4
                        rw [c5]
                        rw [decide_eq_false c4] at ek
                        exact iteT (no ek)
                    · rw [decide_eq_false c3] at ek ⊢
                      exact iteF ⟨_, rfl, iteT (no ek)⟩
        · have e2 : (!decide (V.int (xs.length : Nat) = V.int 2)) = true := by
            rw [el]
            have : ¬ V.int (ds.length : Nat) = V.int 2 := by
              intro z
              injection z with z
              omega
            rw [decide_eq_false this]
            rfl
          rw [e2]
          exact iteT (no (isP_no2 c2))
      | _ => cases hu
/-! ### look_picture -/
theorem sc_look_picture : FnScope ["picture"] ["picture"] (defScope s_look_picture) := ⟨rfl, rfl, rfl, by decide +kernel, rfl, by decide +kernel, by decide +kernel⟩
def spLookP (K : PySem.W.Frag) : Sp := fun vs H Q E => ∃ (v : V) (d : PyData), vs = [v] ∧ Dp K H v d ∧ (isP d = true → ∀ H', Same H H' → Q .non H') ∧ (isP d = false → ∀ H', Same H H' → E (.ref (He.ga K "NoPicture")) none H')
theorem h_look_picture (T : Tx K mg) : Has P w K mg base (L2.CX P w) 7 "look_picture" ["picture"] (spLookP K) := by
  obtain ⟨fd, F⟩ := T.fn_look_picture
  obtain ⟨xP, kP, bP, tP⟩ := T.x_NoPicture
  refine has_x (st := s_look_picture) F T.g_look_picture sc_look_picture (fun _ _ _ _ _ _ us hl => match us, hl with | [_], _ => rfl) (fun vs H Q E h => ?_) (fun cdv A outer s H vs Q E hr h => ?_)
  · obtain ⟨v, d, rfl, _⟩ := h
    rfl
  · obtain ⟨v, d, rfl, hd, k1, k2⟩ := h
    refine ⟨_, pss_one (ps_if (pt_not (pt_val (pe_h0 (h_is_picture T) hr (pa_cons (pv 0) pa_nil))))
      (pss_one (ps_raise rfl (takes_of rfl rfl rfl rfl) (pmk_own PySem.F.excBase_ValueError xP T.g_NoPicture kP (raises_own bP tP) rfl))) pss_nil), ?_⟩
    refine ⟨_, rfl, v, d, rfl, hd, fun H' s' => ⟨_, rfl, ?_⟩⟩
    cases e : isP d with
    | true => exact iteF (k1 e H' s')
    | false => exact iteT (k2 e H' s')
end
end Ff
set_option Elab.async false
set_option linter.all false
set_option maxRecDepth 100000
set_option maxHeartbeats 2000000
namespace Ff
open PySem PySem.Spec PyProof.Rows L2
theorem isU_T {t : T} {n : Nat} : isU t.d = match t with | .leaf _ => false | .node _ _ _ _ => true := by
  cases t <;> rfl
theorem four_of_len {α : Type} : ∀ {l : List α}, l.length = 4 → ∃ a b c d, l = [a, b, c, d]
  | [a, b, c, d], _ => ⟨a, b, c, d, rfl⟩
section
variable {P : Program} {w : World} {K : PySem.W.Frag} {mg : Str → Option Value} {base : Heap}
/-! ### quarter -/
theorem sc_quarter : FnScope ["tree", "number"] ["tree", "number"] (defScope s_quarter) := ⟨rfl, rfl, rfl, by decide +kernel, rfl, by decide +kernel, by decide +kernel⟩
def spQuarter (K : PySem.W.Frag) : Sp := fun vs H Q _ => ∃ (v : V) (t : T) (k : Nat), vs = [v, .int k] ∧ k < 4 ∧ Dp K H v t.d ∧ ∀ v', Dp K H v' (q t k).d → Q v' H
theorem h_quarter (tx : Tx K mg) : Has P w K mg base CX0 1 "quarter" ["tree", "number"] (spQuarter K) := by
  obtain ⟨fd, F⟩ := tx.fn_quarter
  refine has_n (st := s_quarter) F tx.g_quarter sc_quarter (fun _ _ _ _ _ _ us hl => match us, hl with | [_, _], _ => rfl) (fun vs H Q E h => ?_) (fun cdv A outer s H vs Q E hr h => ?_)
  · obtain ⟨v, t, k, rfl, _⟩ := h
    rfl
  · obtain ⟨v, t, k, rfl, hk, hd, kq⟩ := h
    refine ⟨_, pss_one (ps_ret (pe_ifExp (pt_val (pe_isU tx.z_isinstance tx.z_tuple (pv 0))) (pe_ix ix_tup (pv 0) (pv 1) (fun _ _ => rfl)) (pv 0))), ?_⟩
    refine ⟨_, rfl, v, t.d, rfl, hd, _, rfl, ?_⟩
    cases t with
    | leaf i => exact iteF ⟨_, rfl, kq _ hd⟩
    | node a b c d =>
      obtain ⟨p, va, vb, vc, vd, rfl, hs, h1, h2, h3, h4⟩ := dp_node hd
      refine iteT ⟨_, rfl, _, rfl, p, _, _, sel k va vb vc vd, rfl, rfl, hs, atI_nat ?_, ?_⟩
      · match k, hk with
        | 0, _ => rfl
        | 1, _ => rfl
        | 2, _ => rfl
        | 3, _ => rfl
      · refine kq _ ?_
        match k, hk with
        | 0, _ => exact h1
        | 1, _ => exact h2
        | 2, _ => exact h3
        | 3, _ => exact h4
/-! ### four -/
theorem sc_four : FnScope ["parts", "part"] ["parts"] (defScope s_four) := ⟨rfl, rfl, rfl, by decide +kernel, rfl, by decide +kernel, by decide +kernel⟩
def spFour (K : PySem.W.Frag) : Sp := fun vs H Q _ => ∃ (l : Addr) (va vb vc vd : V) (a b c d : T) (n : Nat), vs = [.ref l] ∧ SqL K H l [va, vb, vc, vd] ∧ Dp K H va a.d ∧ Dp K H vb b.d ∧ Dp K H vc c.d ∧ Dp K H vd d.d ∧
  (n ≤ 9 ∧ T.ok n a ∧ T.ok n b ∧ T.ok n c ∧ T.ok n d) ∧ ∀ H' v', Same H H' → Dp K H' v' (four a b c d).d → Q v' H'
theorem h_four (tx : Tx K mg) : Has P w K mg base CX0 1 "four" ["parts"] (spFour K) := by
  obtain ⟨fd, F⟩ := tx.fn_four
  refine has_n (st := s_four) F tx.g_four sc_four (fun _ _ _ _ _ _ us hl => match us, hl with | [_], _ => rfl) (fun vs H Q E h => ?_) (fun cdv A outer s H vs Q E hr h => ?_)
  · obtain ⟨l, va, vb, vc, vd, a, b, c, d, n, rfl, _⟩ := h
    rfl
  · obtain ⟨l, va, vb, vc, vd, a, b, c, d, n, rfl, hs, h1, h2, h3, h4, ⟨hn, o1, o2, o3, o4⟩, kq⟩ := h
    have nd := sc_four.nd
    refine ⟨_, pss_cons (ps_if (PW.pt (pw_and (pt_not (pt_val (pe_isU tx.z_isinstance tx.z_tuple (pe_ix ix_list (pv 0) pe_int (fun _ _ => rfl))))) (pw_and1 (pt_val (pe_callB (cr_all rfl) (by rfl) tx.z_all b_all (pa_cons
        (pe_lc (own := [("part", 1)]) (g := gName 1) (tt := tYes) rfl nd (pi_list (pv 0)) (blkOk_by (N := ["parts", "part"]) (sc := defScope s_four) (by decide +kernel))
        (fun _ _ _ _ _ => pg_name (i := 1) nd rfl (Or.inl rfl)) (fun _ _ _ _ _ => pts_nil) (fun _ _ _ _ _ => pe_cmpR (r := rEqD K) (op_eqD hr.units) (pv 1) (pe_ix (r := rIxL K) ix_list (pv 0) pe_int (fun _ _ => rfl)) (nomark _))) pa_nil))))))
        (pss_one (ps_ret (pe_ix ix_list (pv 0) pe_int (fun _ _ => rfl)))) pss_nil)
      (pss_one (ps_ret (pe_callTy call_tuple_of (by rfl) tx.z_tuple b_tuple (pa_cons (pv 0) pa_nil)))), ?_⟩
    have fin : ∀ H', Same H H' → four a b c d = .node a b c d → (∃ p ys, [V.ref l] = [V.ref p] ∧ ((SqL K H' p ys ∧ ∀ l, H' l = none → Q (.ref l) (upd H' l (.tup ys))) ∨ (SqT K H' p ys ∧ Q (.ref p) H'))) := fun H' s' e =>
      ⟨l, _, rfl, .inl ⟨s'.seq hs, fun p hp => kq _ _ (fun b o z => same_upd hp b o (s' b o z)) (by
        rw [e]
        have st := fun {t : T} {v : V} (z : Dp K H v t.d) => dp_same (Same.trans s' (same_upd (o := .tup [va, vb, vc, vd]) hp)) z
        exact dp_mk (SqT.of upd_same) (st h1) (st h2) (st h3) (st h4))⟩⟩
    refine ⟨_, rfl, l, _, _, va, rfl, rfl, hs, rfl, _, _, rfl, h1, _, rfl, ?_⟩
    cases a with
    | node a1 a2 a3 a4 => exact iteF (iteF ⟨_, rfl, fin H (Same.refl _) rfl⟩)
    | leaf i =>
      refine iteT ?_
      have ev := dp_leaf h1
      subst ev
      refine ⟨_, rfl, l, rfl, ⟨_, hs⟩, fun D hD => ?_⟩
      refine lc_listR (K := K) (xs := [V.int i, vb, vc, vd]) (fun j y H => ∃ t : T, ([.leaf i, b, c, d] : List T)[j]? = some t ∧ y = .bl (isL i t)) (fun _ _ _ _ _ _ _ z => z) hD hs (by simp) (fun _ => rfl) ?_ ?_
      · intro j x H' Q' hx s' kq'
        have key : ∀ t : T, T.ok n t → Dp K H x t.d → ([.leaf i, b, c, d] : List T)[j]? = some t →
            ∃ v, ((wipe (start ["parts", "part"] [V.ref l]) [1]).set 1 (some x))[1]? = some (some v) ∧ tOp (rIxL K) (tVar 0) (tC (.int 0)) ((wipe (start ["parts", "part"] [V.ref l]) [1]).set 1 (some x)) H' fun y H2 => rEqD K v y H2 Q' := fun t ot ht et =>
          ⟨x, rfl, _, rfl, l, _, _, V.int i, rfl, rfl, s'.seq hs, rfl, t.d, .int i, dp_same s' ht, .int i, sm_shaped (k := n) (sm_T ot) (by omega), by rfl, by
            rw [eqv_leaf]
            exact kq' _ _ (Same.refl _) ⟨t, et, rfl⟩⟩
        match j, hx with
        | 0, hx => cases hx; exact key _ o1 (.int i) rfl
        | 1, hx => cases hx; exact key _ o2 h2 rfl
        | 2, hx => cases hx; exact key _ o3 h3 rfl
        | 3, hx => cases hx; exact key _ o4 h4 rfl
      · intro ys H' s' hy hl hR
        obtain ⟨y0, y1, y2, y3, rfl⟩ := four_of_len hl
        obtain ⟨t0, e0, z0⟩ := hR 0 _ rfl
        obtain ⟨t1, e1, z1⟩ := hR 1 _ rfl
        obtain ⟨t2, e2, z2⟩ := hR 2 _ rfl
        obtain ⟨t3, e3, z3⟩ := hR 3 _ rfl
        cases e0
        cases e1
        cases e2
        cases e3
        subst z0 z1 z2 z3
        refine ⟨D, [isL i (.leaf i), isL i b, isL i c, isL i d], rfl, SqL.of hy, _, rfl, ?_⟩
        have ef : ([isL i (.leaf i), isL i b, isL i c, isL i d] : List Bool).all id = (isL i b && (isL i c && isL i d)) := by
          simp [isL]
        rw [ef]
        have e4 : four (.leaf i) b c d = if (isL i b && (isL i c && isL i d)) = true then .leaf i else .node (.leaf i) b c d := rfl
        refine ite2 (fun z => ?_) (fun z => ?_)
        · rw [if_pos z] at e4
          refine ⟨_, rfl, l, _, _, V.int i, rfl, rfl, s'.seq hs, rfl, kq _ _ s' ?_⟩
          rw [e4]
          exact .int i
        · rw [if_neg z] at e4
          exact ⟨_, rfl, fin H' s' e4⟩
end
end Ff
set_option Elab.async false
set_option linter.all false
set_option maxRecDepth 100000
set_option maxHeartbeats 2000000
namespace Ff
open PySem PySem.Spec PyProof.Rows L2
/-- the item of four -/
theorem get4 {α : Type} {a b c d x : α} {j : Nat} (h : ([a, b, c, d] : List α)[j]? = some x) : j < 4 ∧ x = sel j a b c d := by
  match j, h with
  | 0, h => cases h; exact ⟨by decide, rfl⟩
  | 1, h => cases h; exact ⟨by decide, rfl⟩
  | 2, h => cases h; exact ⟨by decide, rfl⟩
  | 3, h => cases h; exact ⟨by decide, rfl⟩
section
variable {P : Program} {w : World} {K : PySem.W.Frag} {mg : Str → Option Value} {base : Heap}
/-! ### lean_tree -/
theorem sc_lean_tree : FnScope ["tree", "part"] ["tree"] (defScope s_lean_tree) := ⟨rfl, rfl, rfl, by decide +kernel, rfl, by decide +kernel, by decide +kernel⟩
def spLeanT (K : PySem.W.Frag) (m : Nat) : Sp := fun vs H Q _ => ∃ (v : V) (t : T), vs = [v] ∧ m ≤ 8 ∧ T.ok m t ∧ Dp K H v t.d ∧ ∀ H' v', Same H H' → Dp K H' v' (lean t).d → Q v' H'
theorem st_lean_tree (tx : Tx K mg) (m : Nat) (IH : Has P w K mg base CX0 (m + 1) "lean_tree" ["tree"] (dn (spLeanT K) m)) : Has P w K mg base CX0 (m + 1 + 1) "lean_tree" ["tree"] (spLeanT K m) := by
  obtain ⟨fd, F⟩ := tx.fn_lean_tree
  refine has_n (st := s_lean_tree) F tx.g_lean_tree sc_lean_tree (fun _ _ _ _ _ _ us hl => match us, hl with | [_], _ => rfl) (fun vs H Q E h => ?_) (fun cdv A outer s H vs Q E hr h => ?_)
  · obtain ⟨v, t, rfl, _⟩ := h
    rfl
  · obtain ⟨v, t, rfl, hm, ok, hd, k⟩ := h
    have nd := sc_lean_tree.nd
    refine ⟨_, pss_cons (ps_if (pt_not (pt_val (pe_isU tx.z_isinstance tx.z_tuple (pv 0)))) (pss_one (ps_ret (pv 0))) pss_nil)
      (pss_one (ps_ret (pe_h0 (h_four tx) (hr.mono (by omega)) (pa_cons (pe_lc (own := [("part", 1)]) (g := gName 1) (tt := tYes) rfl nd (pi_tup (pv 0)) (blkOk_by (N := ["tree", "part"]) (sc := defScope s_lean_tree) (by decide +kernel))
        (fun _ _ _ _ _ => pg_name (i := 1) nd rfl (Or.inl rfl)) (fun _ _ _ _ _ => pts_nil) (fun _ _ _ _ _ => pe_h0 IH hr (pa_cons (pv 1) pa_nil))) pa_nil)))), ?_⟩
    refine ⟨_, rfl, v, t.d, rfl, hd, _, rfl, ?_⟩
    cases t with
    | leaf i => exact iteT ⟨_, rfl, k H _ (Same.refl _) hd⟩
    | node a b c d =>
      refine iteF ?_
      obtain ⟨p, va, vb, vc, vd, rfl, hs, h1, h2, h3, h4⟩ := dp_node hd
      cases m with
      | zero => exact ok.elim
      | succ m =>
        obtain ⟨oa, ob, oc, od⟩ := ok
        refine ⟨_, rfl, p, rfl, ⟨_, hs⟩, fun D hD => ?_⟩
        refine lc_tupR (K := K) (xs := [va, vb, vc, vd]) (fun j y H => Dp K H y (lean (sel j a b c d)).d) (fun j y H H' acc e b z => but_tree e b z) hD hs (by simp) (fun _ => rfl) ?_ ?_
        · intro j x H' Q' hx s' kq
          obtain ⟨hj, rfl⟩ := get4 hx
          refine ⟨_, rfl, _, sel j a b c d, rfl, by omega, sel_all (P := T.ok m) j oa ob oc od, ?_, fun H2 v2 s2 d2 => kq v2 H2 s2 d2⟩
          match j, hj with
          | 0, _ => exact dp_same s' h1
          | 1, _ => exact dp_same s' h2
          | 2, _ => exact dp_same s' h3
          | 3, _ => exact dp_same s' h4
        · intro ys H' s' hy hl hR
          obtain ⟨y0, y1, y2, y3, rfl⟩ := four_of_len hl
          exact ⟨D, y0, y1, y2, y3, lean a, lean b, lean c, lean d, m, rfl, SqL.of hy, hR 0 _ rfl, hR 1 _ rfl, hR 2 _ rfl, hR 3 _ rfl, ⟨by omega, lean_ok oa, lean_ok ob, lean_ok oc, lean_ok od⟩, fun H2 v2 s2 d2 => k H2 v2 (Same.trans s' s2) d2⟩
theorem h_lean_tree (tx : Tx K mg) (m : Nat) : Has P w K mg base CX0 (m + 1 + 1) "lean_tree" ["tree"] (spLeanT K m) := by
  obtain ⟨fd, F⟩ := tx.fn_lean_tree
  exact has_rec (has_false (st := s_lean_tree) F tx.g_lean_tree (fun _ _ _ _ _ _ us hl => match us, hl with | [_], _ => rfl)) (fun m => st_lean_tree tx m) m
/-! ### lean -/
theorem sc_lean : FnScope ["picture"] ["picture"] (defScope s_lean) := ⟨rfl, rfl, rfl, by decide +kernel, rfl, by decide +kernel, by decide +kernel⟩
def spLean (K : PySem.W.Frag) : Sp := fun vs H Q E => ∃ (v : V) (d : PyData), vs = [v] ∧ Dp K H v d ∧ (isP d = false → ∀ H', Same H H' → E (.ref (He.ga K "NoPicture")) none H') ∧
  (∀ n t, d = pd n t → n ≤ 3 → T.ok n t → ∀ H' v', Same H H' → Dp K H' v' (pd n (lean t)) → Q v' H')
theorem h_lean (tx : Tx K mg) : Has P w K mg base (L2.CX P w) 8 "lean" ["picture"] (spLean K) := by
  obtain ⟨fd, F⟩ := tx.fn_lean
  refine has_x (st := s_lean) F tx.g_lean sc_lean (fun _ _ _ _ _ _ us hl => match us, hl with | [_], _ => rfl) (fun vs H Q E h => ?_) (fun cdv A outer s H vs Q E hr h => ?_)
  · obtain ⟨v, d, rfl, _⟩ := h
    rfl
  · obtain ⟨v, d, rfl, hd, k1, k2⟩ := h
    refine ⟨_, pss_cons (ps_expr (pe_h (E := E) (h_look_picture tx) hr (passes_call (takes_of rfl rfl rfl rfl) fun _ _ _ _ z => z) (pa_cons (pv 0) pa_nil)))
      (pss_one (ps_ret (pe_tup (pa_cons (pe_ix ix_tup (pv 0) pe_int (fun _ _ => rfl)) (pa_cons (pe_h0 (h_lean_tree tx 3) (hr.mono (by decide)) (pa_cons (pe_ix ix_tup (pv 0) pe_int (fun _ _ => rfl)) pa_nil)) pa_nil))))), ?_⟩
    refine ⟨_, rfl, v, d, rfl, hd, fun hp H1 s1 => ?_, fun hp H1 s1 => k1 hp H1 s1⟩
    obtain ⟨n, t, hn, rfl, ok⟩ := isP_d hp
    obtain ⟨p, u, rfl, hs, hu⟩ := dp_pd hd
    have hs1 := same_sqT s1 hs
    refine ⟨_, rfl, p, _, _, V.int n, rfl, rfl, hs1, rfl, _, rfl, p, _, _, u, rfl, rfl, hs1, rfl, u, t, rfl, by decide, ok_le hn ok, dp_same s1 hu, fun H2 v2 s2 d2 => ?_⟩
    refine ⟨(by show 2 ≤ sizeLine; decide), fun r hr2 => k2 n t rfl hn ok _ _ (fun b o z => same_upd hr2 b o (s2 b o (s1 b o z))) (pd_mk (SqT.of upd_same) (dp_same (same_upd hr2) d2))⟩
end
end Ff
set_option Elab.async false
set_option linter.all false
set_option maxRecDepth 100000
set_option maxHeartbeats 2000000
namespace Ff
open PySem PySem.Spec PyProof.Rows L2
theorem sides_at {n : Nat} (h : n ≤ 3) : ([V.int 1, V.int 2, V.int 4, V.int 8] : List V)[n]? = some (V.int (2 ^ n)) := by
  match n, h with
  | 0, _ => rfl
  | 1, _ => rfl
  | 2, _ => rfl
  | 3, _ => rfl
/-- a spot of a picture -/
def spotOk (n : Nat) (x y : Int) : Bool := (decide (0 ≤ x) && decide (x < 2 ^ n)) && (decide (0 ≤ y) && decide (y < 2 ^ n))
def boxOk (n : Nat) (l t w h : Int) : Bool := decide (0 ≤ l) && (decide (0 ≤ t) && ((decide (1 ≤ w) && decide (w ≤ 2 ^ n - l)) && (decide (1 ≤ h) && decide (h ≤ 2 ^ n - t))))
def worOk (i : Int) : Bool := decide (0 ≤ i) && decide (i ≤ 9)
section
variable {P : Program} {w : World} {K : PySem.W.Frag} {mg : Str → Option Value} {base : Heap}
/-! ### look_spot -/
theorem sc_look_spot : FnScope ["picture", "x", "y", "side"] ["picture", "x", "y"] (defScope s_look_spot) := ⟨rfl, rfl, rfl, by decide +kernel, rfl, by decide +kernel, by decide +kernel⟩
def spLookS (K : PySem.W.Frag) : Sp := fun vs H Q E => ∃ (v : V) (n : Nat) (t : T) (x y : Int), vs = [v, .int x, .int y] ∧ n ≤ 3 ∧ Dp K H v (pd n t) ∧ (spotOk n x y = true → Q .non H) ∧ (spotOk n x y = false → E (.ref (He.ga K "NoSpot")) none H)
theorem h_look_spot (tx : Tx K mg) : Has P w K mg base (L2.CX P w) 1 "look_spot" ["picture", "x", "y"] (spLookS K) := by
  obtain ⟨fd, F⟩ := tx.fn_look_spot
  obtain ⟨xP, kP, bP, tP⟩ := tx.x_NoSpot
  refine has_x (st := s_look_spot) F tx.g_look_spot sc_look_spot (fun _ _ _ _ _ _ us hl => match us, hl with | [_, _, _], _ => rfl) (fun vs H Q E h => ?_) (fun cdv A outer s H vs Q E hr h => ?_)
  · obtain ⟨v, n, t, x, y, rfl, _⟩ := h
    rfl
  · obtain ⟨v, n, t, x, y, rfl, hn, hd, k1, k2⟩ := h
    have nd := sc_look_spot.nd
    obtain ⟨p, u, rfl, hs, hu⟩ := dp_pd hd
    refine ⟨_, pss_cons (ps_set (i := 3) nd rfl (Or.inl rfl) (pe_ix ix_tup (pe_glob (v := .ref (He.ga K "SIDES")) rfl tx.g_SIDES rfl) (pe_ix ix_tup (pv 0) pe_int (fun _ _ => rfl)) (fun _ _ => rfl)))
      (pss_one (ps_if (PW.pt (pw_or (pt_not (pt_chain op_le op_lt pe_int (pv 1) (pv 3))) (pw_or1 (pt_not (pt_chain op_le op_lt pe_int (pv 2) (pv 3))))))
        (pss_one (ps_raise rfl (takes_of rfl rfl rfl rfl) (pmk_own PySem.F.excBase_ValueError xP tx.g_NoSpot kP (raises_own bP tP) rfl))) pss_nil)), ?_⟩
    refine ⟨_, rfl, p, _, _, V.int n, rfl, rfl, hs, rfl, _, _, _, V.int (2 ^ n), rfl, rfl, tx.t_SIDES _, atI_nat (sides_at hn), ?_⟩
    refine ⟨_, rfl, _, _, rfl, rfl, _, rfl, ?_⟩
    unfold spotOk at k1 k2
    by_cases c1 : 0 ≤ x
    · rw [decide_eq_true c1] at k1 k2 ⊢
      refine iteT ⟨_, rfl, _, _, rfl, rfl, _, rfl, ?_⟩
      by_cases c2 : x < 2 ^ n
      · rw [decide_eq_true c2] at k1 k2 ⊢
        refine iteF ⟨_, rfl, _, _, rfl, rfl, _, rfl, ?_⟩
        by_cases c3 : 0 ≤ y
        · rw [decide_eq_true c3] at k1 k2 ⊢
          refine iteT ⟨_, rfl, _, _, rfl, rfl, _, rfl, ?_⟩
          by_cases c4 : y < 2 ^ n
          · rw [decide_eq_true c4] at k1 k2 ⊢
            exact iteF (k1 rfl)
          · rw [decide_eq_false c4] at k1 k2 ⊢
            exact iteT (k2 rfl)
        · rw [decide_eq_false c3] at k1 k2 ⊢
          exact iteF ⟨_, rfl, iteT (k2 rfl)⟩
      · rw [decide_eq_false c2] at k1 k2 ⊢
        exact iteT (iteT (k2 rfl))
    · rw [decide_eq_false c1] at k1 k2 ⊢
      exact iteF ⟨_, rfl, iteT (iteT (k2 rfl))⟩
/-! ### is_box_of, look_box, look_worth -/
theorem sc_is_box_of : FnScope ["size", "box", "left", "top", "width", "height", "side"] ["size", "box"] (defScope s_is_box_of) := ⟨rfl, rfl, rfl, by decide +kernel, rfl, by decide +kernel, by decide +kernel⟩
def spIsBox (K : PySem.W.Frag) : Sp := fun vs H Q _ => ∃ (n : Nat) (b : Addr) (l t w h : Int), vs = [.int n, .ref b] ∧ n ≤ 3 ∧ SqT K H b [.int l, .int t, .int w, .int h] ∧ Q (.bl (boxOk n l t w h)) H
theorem h_is_box_of (tx : Tx K mg) : Has P w K mg base CX0 1 "is_box_of" ["size", "box"] (spIsBox K) := by
  obtain ⟨fd, F⟩ := tx.fn_is_box_of
  refine has_n (st := s_is_box_of) F tx.g_is_box_of sc_is_box_of (fun _ _ _ _ _ _ us hl => match us, hl with | [_, _], _ => rfl) (fun vs H Q E h => ?_) (fun cdv A outer s H vs Q E hr h => ?_)
  · obtain ⟨n, b, l, t, w, h, rfl, _⟩ := h
    rfl
  · obtain ⟨n, b, l, t, wd, ht, rfl, hn, hb, k⟩ := h
    have nd := sc_is_box_of.nd
    refine ⟨_, pss_cons (ps_asg (pv 1) (pg_tup rfl (pgs_cons (pg_name (i := 2) nd rfl (Or.inl rfl)) (pgs_cons (pg_name (i := 3) nd rfl (Or.inl rfl)) (pgs_cons (pg_name (i := 4) nd rfl (Or.inl rfl)) (pgs_cons (pg_name (i := 5) nd rfl (Or.inl rfl)) pgs_nil))))))
      (pss_cons (ps_set (i := 6) nd rfl (Or.inl rfl) (pe_ix ix_tup (pe_glob (v := .ref (He.ga K "SIDES")) rfl tx.g_SIDES rfl) (pv 0) (fun _ _ => rfl)))
      (pss_one (ps_ret (pe_and (pe_cmpR op_le pe_int (pv 2) (nomark _)) (pe_and (pe_cmpR op_le pe_int (pv 3) (nomark _)) (pe_and (pe_chain op_le op_le pe_int (pv 4) (pe_op op_sub (pv 6) (pv 2))) (pe_one (pe_chain op_le op_le pe_int (pv 5) (pe_op op_sub (pv 6) (pv 3)))))))))), ?_⟩
    refine ⟨_, rfl, b, _, rfl, hb, rfl, _, _, rfl, _, _, rfl, _, _, rfl, _, _, rfl, rfl, ?_⟩
    refine ⟨_, rfl, _, _, _, V.int (2 ^ n), rfl, rfl, tx.t_SIDES _, atI_nat (sides_at hn), ?_⟩
    refine ⟨_, rfl, _, _, rfl, rfl, _, rfl, ?_⟩
    unfold boxOk at k
    by_cases c1 : 0 ≤ l
    · rw [decide_eq_true c1] at k ⊢
      refine iteT ⟨_, rfl, _, _, rfl, rfl, _, rfl, ?_⟩
      by_cases c2 : 0 ≤ t
      · rw [decide_eq_true c2] at k ⊢
        refine iteT ⟨_, rfl, _, _, rfl, rfl, _, rfl, ?_⟩
        by_cases c3 : 1 ≤ wd
        · rw [decide_eq_true c3] at k ⊢
          refine iteT ⟨_, rfl, _, rfl, _, _, rfl, rfl, _, _, rfl, rfl, _, rfl, ?_⟩
          by_cases c4 : wd ≤ 2 ^ n - l
          · rw [decide_eq_true c4] at k ⊢
            refine iteT ⟨_, rfl, _, _, rfl, rfl, _, rfl, ?_⟩
            by_cases c5 : 1 ≤ ht
            · rw [decide_eq_true c5] at k ⊢
              exact iteT ⟨_, rfl, _, rfl, _, _, rfl, rfl, _, _, rfl, rfl, k⟩
            · rw [decide_eq_false c5] at k ⊢
              exact iteF k
          · rw [decide_eq_false c4] at k ⊢
            exact iteF k
        · rw [decide_eq_false c3] at k ⊢
          exact iteF ⟨_, rfl, iteF k⟩
      · rw [decide_eq_false c2] at k ⊢
        exact iteF k
    · rw [decide_eq_false c1] at k ⊢
      exact iteF k
theorem sc_look_box : FnScope ["picture", "box"] ["picture", "box"] (defScope s_look_box) := ⟨rfl, rfl, rfl, by decide +kernel, rfl, by decide +kernel, by decide +kernel⟩
def spLookB (K : PySem.W.Frag) : Sp := fun vs H Q E => ∃ (v : V) (n : Nat) (tr : T) (b : Addr) (l t w h : Int), vs = [v, .ref b] ∧ n ≤ 3 ∧ Dp K H v (pd n tr) ∧ SqT K H b [.int l, .int t, .int w, .int h] ∧
  (boxOk n l t w h = true → Q .non H) ∧ (boxOk n l t w h = false → E (.ref (He.ga K "BadBox")) none H)
theorem h_look_box (tx : Tx K mg) : Has P w K mg base (L2.CX P w) 2 "look_box" ["picture", "box"] (spLookB K) := by
  obtain ⟨fd, F⟩ := tx.fn_look_box
  obtain ⟨xP, kP, bP, tP⟩ := tx.x_BadBox
  refine has_x (st := s_look_box) F tx.g_look_box sc_look_box (fun _ _ _ _ _ _ us hl => match us, hl with | [_, _], _ => rfl) (fun vs H Q E h => ?_) (fun cdv A outer s H vs Q E hr h => ?_)
  · obtain ⟨v, n, tr, b, l, t, w, h, rfl, _⟩ := h
    rfl
  · obtain ⟨v, n, tr, b, l, t, wd, ht, rfl, hn, hd, hb, k1, k2⟩ := h
    obtain ⟨p, u, rfl, hs, hu⟩ := dp_pd hd
    refine ⟨_, pss_one (ps_if (pt_not (pt_val (pe_h0 (h_is_box_of tx) hr (pa_cons (pe_ix ix_tup (pv 0) pe_int (fun _ _ => rfl)) (pa_cons (pv 1) pa_nil)))))
      (pss_one (ps_raise rfl (takes_of rfl rfl rfl rfl) (pmk_own PySem.F.excBase_ValueError xP tx.g_BadBox kP (raises_own bP tP) rfl))) pss_nil), ?_⟩
    refine ⟨_, rfl, p, _, _, V.int n, rfl, rfl, hs, rfl, _, rfl, n, b, l, t, wd, ht, rfl, hn, hb, _, rfl, ?_⟩
    cases e : boxOk n l t wd ht with
    | true => exact iteF (k1 e)
    | false => exact iteT (k2 e)
theorem sc_look_worth : FnScope ["worth"] ["worth"] (defScope s_look_worth) := ⟨rfl, rfl, rfl, by decide +kernel, rfl, by decide +kernel, by decide +kernel⟩
def spLookW (K : PySem.W.Frag) : Sp := fun vs H Q E => ∃ i : Int, vs = [.int i] ∧ (worOk i = true → Q .non H) ∧ (worOk i = false → E (.ref (He.ga K "NoPicture")) none H)
theorem h_look_worth (tx : Tx K mg) : Has P w K mg base (L2.CX P w) 2 "look_worth" ["worth"] (spLookW K) := by
  obtain ⟨fd, F⟩ := tx.fn_look_worth
  obtain ⟨xP, kP, bP, tP⟩ := tx.x_NoPicture
  refine has_x (st := s_look_worth) F tx.g_look_worth sc_look_worth (fun _ _ _ _ _ _ us hl => match us, hl with | [_], _ => rfl) (fun vs H Q E h => ?_) (fun cdv A outer s H vs Q E hr h => ?_)
  · obtain ⟨i, rfl, _⟩ := h
    rfl
  · obtain ⟨i, rfl, k1, k2⟩ := h
    refine ⟨_, pss_one (ps_if (pt_not (pt_val (pe_h0 (h_is_worth tx) hr (pa_cons (pv 0) pa_nil))))
      (pss_one (ps_raise rfl (takes_of rfl rfl rfl rfl) (pmk_own PySem.F.excBase_ValueError xP tx.g_NoPicture kP (raises_own bP tP) rfl))) pss_nil), ?_⟩
    refine ⟨_, rfl, _, .int i, rfl, .int i, _, rfl, ?_⟩
    have e0 : isT 0 (.int i) = worOk i := rfl
    rw [e0]
    cases e : worOk i with
    | true => exact iteF (k1 e)
    | false => exact iteT (k2 e)
/-! ### overlap, is_within -/
theorem sc_overlap : FnScope ["box", "left", "top", "side", "first", "last", "upper", "lower"] ["box", "left", "top", "side"] (defScope s_overlap) := ⟨rfl, rfl, rfl, by decide +kernel, rfl, by decide +kernel, by decide +kernel⟩
def spOverlap (K : PySem.W.Frag) : Sp := fun vs H Q _ => ∃ (b : Addr) (l t w h left top side : Int), vs = [.ref b, .int left, .int top, .int side] ∧ SqT K H b [.int l, .int t, .int w, .int h] ∧
  (ovl l t w h left top side = none → Q .non H) ∧ (∀ r, ovl l t w h left top side = some r → ∀ p, H p = none → Q (.ref p) (upd H p (.tup [.int r.1, .int r.2.1, .int r.2.2.1, .int r.2.2.2])))
theorem h_overlap (tx : Tx K mg) : Has P w K mg base CX0 1 "overlap" ["box", "left", "top", "side"] (spOverlap K) := by
  obtain ⟨fd, F⟩ := tx.fn_overlap
  refine has_n (st := s_overlap) F tx.g_overlap sc_overlap (fun _ _ _ _ _ _ us hl => match us, hl with | [_, _, _, _], _ => rfl) (fun vs H Q E h => ?_) (fun cdv A outer s H vs Q E hr h => ?_)
  · obtain ⟨b, l, t, w, h, left, top, side, rfl, _⟩ := h
    rfl
  · obtain ⟨b, l, t, wd, ht, left, top, side, rfl, hb, k1, k2⟩ := h
    have nd := sc_overlap.nd
    refine ⟨_, pss_cons (ps_par (i := 4) (j := 5) (by rfl) nd rfl rfl (by decide) rfl rfl
        (pa_cons (pe_callB (call_max2 rfl) (by rfl) tx.z_max b_max (pa_cons (pe_ix ix_tup (pv 0) pe_int (fun _ _ => rfl)) (pa_cons (pv 1) pa_nil)))
        (pa_cons (pe_callB (call_min2 rfl) (by rfl) tx.z_min b_min (pa_cons (pe_op op_add (pe_ix ix_tup (pv 0) pe_int (fun _ _ => rfl)) (pe_ix ix_tup (pv 0) pe_int (fun _ _ => rfl))) (pa_cons (pe_op op_add (pv 1) (pv 3)) pa_nil))) pa_nil)) (by rfl))
      (pss_cons (ps_par (i := 6) (j := 7) (by rfl) nd rfl rfl (by decide) rfl rfl
        (pa_cons (pe_callB (call_max2 rfl) (by rfl) tx.z_max b_max (pa_cons (pe_ix ix_tup (pv 0) pe_int (fun _ _ => rfl)) (pa_cons (pv 2) pa_nil)))
        (pa_cons (pe_callB (call_min2 rfl) (by rfl) tx.z_min b_min (pa_cons (pe_op op_add (pe_ix ix_tup (pv 0) pe_int (fun _ _ => rfl)) (pe_ix ix_tup (pv 0) pe_int (fun _ _ => rfl))) (pa_cons (pe_op op_add (pv 2) (pv 3)) pa_nil))) pa_nil)) (by rfl))
      (pss_one (ps_ret (pe_ifExp (PW.pt (pw_and (pt_cmpR op_lt (pv 4) (pv 5) (nomark _)) (pw_and1 (pt_cmpR op_lt (pv 6) (pv 7) (nomark _))))) (pe_tup (pa_cons (pv 4) (pa_cons (pv 5) (pa_cons (pv 6) (pa_cons (pv 7) pa_nil))))) pe_non)))), ?_⟩
    refine ⟨_, rfl, b, _, _, V.int l, rfl, rfl, hb, rfl, _, rfl, _, _, rfl, ?_⟩
    refine ⟨_, rfl, b, _, _, V.int l, rfl, rfl, hb, rfl, _, rfl, b, _, _, V.int wd, rfl, rfl, hb, rfl, _, _, rfl, rfl, _, rfl, _, rfl, _, _, rfl, rfl, _, _, rfl, _, _, rfl, ?_⟩
    refine ⟨_, rfl, b, _, _, V.int t, rfl, rfl, hb, rfl, _, rfl, _, _, rfl, ?_⟩
    refine ⟨_, rfl, b, _, _, V.int t, rfl, rfl, hb, rfl, _, rfl, b, _, _, V.int ht, rfl, rfl, hb, rfl, _, _, rfl, rfl, _, rfl, _, rfl, _, _, rfl, rfl, _, _, rfl, _, _, rfl, ?_⟩
    refine ⟨_, rfl, _, rfl, _, _, rfl, rfl, _, rfl, ?_⟩
    have e0 : ovl l t wd ht left top side = if mx l left < mn (l + wd) (left + side) ∧ mx t top < mn (t + ht) (top + side) then some (mx l left, mn (l + wd) (left + side), mx t top, mn (t + ht) (top + side)) else none := rfl
    show if decide (mx l left < mn (l + wd) (left + side)) = true then _ else _
    by_cases c1 : mx l left < mn (l + wd) (left + side)
    · rw [decide_eq_true c1]
      refine iteT ⟨_, rfl, _, rfl, _, _, rfl, rfl, _, rfl, ?_⟩
      show if decide (mx t top < mn (t + ht) (top + side)) = true then _ else _
      by_cases c2 : mx t top < mn (t + ht) (top + side)
      · rw [decide_eq_true c2]
        rw [if_pos ⟨c1, c2⟩] at e0
        exact iteT ⟨_, rfl, _, rfl, _, rfl, _, rfl, (by show 4 ≤ sizeLine; decide), fun p hp => k2 _ e0 p hp⟩
      · rw [decide_eq_false c2]
        rw [if_neg fun z => c2 z.2] at e0
        exact iteF (k1 e0)
    · rw [decide_eq_false c1]
      rw [if_neg fun z => c1 z.1] at e0
      exact iteF (iteF (k1 e0))
theorem sc_is_within : FnScope ["box", "left", "top", "side"] ["box", "left", "top", "side"] (defScope s_is_within) := ⟨rfl, rfl, rfl, by decide +kernel, rfl, by decide +kernel, by decide +kernel⟩
def spWithin (K : PySem.W.Frag) : Sp := fun vs H Q _ => ∃ (b : Addr) (l t w h left top side : Int) (r : Int × Int × Int × Int), vs = [.ref b, .int left, .int top, .int side] ∧ SqT K H b [.int l, .int t, .int w, .int h] ∧
  ovl l t w h left top side = some r ∧ ∀ H', Same H H' → Q (.bl (decide (r = (left, left + side, top, top + side)))) H'
theorem eqv4 (a b c d a' b' c' d' : Int) : PyData.eqv (.tuple [.int a, .int b, .int c, .int d]) (.tuple [.int a', .int b', .int c', .int d']) = decide ((a, b, c, d) = (a', b', c', d')) := by
  rw [Bool.eq_iff_iff]
  simp [PyData.eqv, PyData.eqvAll, and_assoc]
theorem shaped4 (a b c d : Int) : SeqAt.shaped (.tuple [.int a, .int b, .int c, .int d]) = true := sm_shaped (k := 1) rfl (by decide)
theorem dp4 {K : PySem.W.Frag} {H : Hp} {p : Addr} {a b c d : Int} (h : SqT K H p [.int a, .int b, .int c, .int d]) : Dp K H (.ref p) (.tuple [.int a, .int b, .int c, .int d]) := .tup h (.cons (.int _) (.cons (.int _) (.cons (.int _) (.cons (.int _) .nil))))
theorem h_is_within (tx : Tx K mg) : Has P w K mg base CX0 2 "is_within" ["box", "left", "top", "side"] (spWithin K) := by
  obtain ⟨fd, F⟩ := tx.fn_is_within
  refine has_n (st := s_is_within) F tx.g_is_within sc_is_within (fun _ _ _ _ _ _ us hl => match us, hl with | [_, _, _, _], _ => rfl) (fun vs H Q E h => ?_) (fun cdv A outer s H vs Q E hr h => ?_)
  · obtain ⟨b, l, t, w, h, left, top, side, r, rfl, _⟩ := h
    rfl
  · obtain ⟨b, l, t, wd, ht, left, top, side, r, rfl, hb, e, k⟩ := h
    refine ⟨_, pss_one (ps_ret (pe_cmpR (op_eqD hr.units) (pe_h0 (h_overlap tx) hr (pa_cons (pv 0) (pa_cons (pv 1) (pa_cons (pv 2) (pa_cons (pv 3) pa_nil))))) (pe_tup (pa_cons (pv 1) (pa_cons (pe_op op_add (pv 1) (pv 3)) (pa_cons (pv 2) (pa_cons (pe_op op_add (pv 2) (pv 3)) pa_nil))))) (nomark _))), ?_⟩
    refine ⟨_, rfl, _, rfl, _, rfl, _, rfl, b, l, t, wd, ht, left, top, side, rfl, hb, fun z => (by rw [e] at z; cases z), fun r' e' p hp => ?_⟩
    rw [e] at e'
    cases e'
    refine ⟨_, rfl, _, rfl, _, rfl, _, _, rfl, rfl, _, rfl, _, rfl, _, rfl, _, _, rfl, rfl, (by show 4 ≤ sizeLine; decide), fun p2 hp2 => ?_⟩
    refine ⟨_, _, dp4 (SqT.of (by rw [upd_ne (ne_of_none upd_same hp2), upd_same])), dp4 (SqT.of upd_same), shaped4 _ _ _ _, shaped4 _ _ _ _, ?_⟩
    rw [eqv4]
    exact k _ (Same.trans (same_upd hp) (same_upd hp2))
end
end Ff
set_option Elab.async false
set_option linter.all false
set_option maxRecDepth 100000
set_option maxHeartbeats 2000000
namespace Ff
open PySem PySem.Spec PyProof.Rows L2
/-- a quarter's own filling -/
def fillQ (l t w h wo : Int) (n : Nat) (tr : T) (left top : Int) (j : Nat) : T :=
  fill l t w h wo n (q tr j) (left + sel j 0 1 0 1 * 2 ^ n) (top + sel j 0 0 1 1 * 2 ^ n)
theorem fill_four {l t w h wo : Int} {n : Nat} {tr : T} {left top : Int} {r : Int × Int × Int × Int} (e : ovl l t w h left top (2 ^ (n + 1)) = some r) (ne : ¬ r = (left, left + 2 ^ (n + 1), top, top + 2 ^ (n + 1))) :
    fill l t w h wo (n + 1) tr left top = four (fillQ l t w h wo n tr left top 0) (fillQ l t w h wo n tr left top 1) (fillQ l t w h wo n tr left top 2) (fillQ l t w h wo n tr left top 3) := by
  conv => lhs; unfold fill
  rw [e]
  dsimp only
  rw [if_neg ne]
  unfold fillQ
  simp only [sel, Int.zero_mul, Int.one_mul, Int.add_zero]
theorem fill_none {l t w h wo : Int} {n : Nat} {tr : T} {left top : Int} (e : ovl l t w h left top (2 ^ n) = none) : fill l t w h wo n tr left top = tr := by
  cases n with
  | zero =>
    have e' : ovl l t w h left top 1 = none := e
    unfold fill
    rw [e']
  | succ n =>
    unfold fill
    rw [e]
theorem fill_in {l t w h wo : Int} {n : Nat} {tr : T} {left top : Int} {r : Int × Int × Int × Int} (e : ovl l t w h left top (2 ^ n) = some r) (c : r = (left, left + 2 ^ n, top, top + 2 ^ n)) : fill l t w h wo n tr left top = .leaf wo := by
  cases n with
  | zero =>
    have e' : ovl l t w h left top 1 = some r := e
    unfold fill
    rw [e']
  | succ n =>
    unfold fill
    rw [e]
    dsimp only
    rw [if_pos c]
section
variable {P : Program} {w : World} {K : PySem.W.Frag} {mg : Str → Option Value} {base : Heap}
/-! ### filled_tree -/
theorem sc_filled_tree : FnScope ["tree", "size", "box", "left", "top", "worth", "side", "half", "made", "number", "across", "down", "part"] ["tree", "size", "box", "left", "top", "worth"] (defScope s_filled_tree) := ⟨rfl, rfl, rfl, by decide +kernel, rfl, by decide +kernel, by decide +kernel⟩
def spFillT (K : PySem.W.Frag) (m : Nat) : Sp := fun vs H Q _ => ∃ (v : V) (tr : T) (n : Nat) (b : Addr) (l t w h left top wo : Int), vs = [v, .int n, .ref b, .int left, .int top, .int wo] ∧ n ≤ m ∧ m ≤ 3 ∧ T.ok n tr ∧ worOk wo = true ∧ Dp K H v tr.d ∧ SqT K H b [.int l, .int t, .int w, .int h] ∧
  ∀ H' v', Same H H' → Dp K H' v' (fill l t w h wo n tr left top).d → Q v' H'
theorem halves {tx : Tx K mg} {H : Hp} {j : Nat} {x : V} (h : ([V.ref (halfA K 0), V.ref (halfA K 1), V.ref (halfA K 2), V.ref (halfA K 3)] : List V)[j]? = some x) : ∃ a, x = .ref a ∧ j < 4 ∧ SqT K H a [.int (sel j 0 1 0 1), .int (sel j 0 0 1 1)] := by
  match j, h with
  | 0, h => cases h; exact ⟨_, rfl, by decide, tx.t_half0 H⟩
  | 1, h => cases h; exact ⟨_, rfl, by decide, tx.t_half1 H⟩
  | 2, h => cases h; exact ⟨_, rfl, by decide, tx.t_half2 H⟩
  | 3, h => cases h; exact ⟨_, rfl, by decide, tx.t_half3 H⟩
theorem st_filled_tree (tx : Tx K mg) (m : Nat) (IH : Has P w K mg base CX0 (m + 2) "filled_tree" ["tree", "size", "box", "left", "top", "worth"] (dn (spFillT K) m)) : Has P w K mg base CX0 (m + 2 + 1) "filled_tree" ["tree", "size", "box", "left", "top", "worth"] (spFillT K m) := by
  obtain ⟨fd, F⟩ := tx.fn_filled_tree
  refine has_n (st := s_filled_tree) F tx.g_filled_tree sc_filled_tree (fun _ _ _ _ _ _ us hl => match us, hl with | [_, _, _, _, _, _], _ => rfl) (fun vs H Q E h => ?_) (fun cdv A outer s H vs Q E hr h => ?_)
  · obtain ⟨v, tr, n, b, l, t, w, h, left, top, wo, rfl, _⟩ := h
    rfl
  · obtain ⟨v, tr, n, b, l, t, wd, ht, left, top, wo, rfl, hn, hm, ok, hw, hd, hb, k⟩ := h
    have nd := sc_filled_tree.nd
    have hr1 : Room 1 _ := hr.mono (by omega)
    have hr2 : Room 2 _ := hr.mono (by omega)
    refine ⟨_, pss_cons (ps_set (i := 6) nd rfl (Or.inl rfl) (pe_ix ix_tup (pe_glob (v := .ref (He.ga K "SIDES")) rfl tx.g_SIDES rfl) (pv 1) (fun _ _ => rfl)))
      (pss_cons (ps_if (pt_cmp (pc_isN (pe_h0 (h_overlap tx) hr1 (pa_cons (pv 2) (pa_cons (pv 3) (pa_cons (pv 4) (pa_cons (pv 6) pa_nil))))))) (pss_one (ps_ret (pv 0))) pss_nil)
      (pss_cons (ps_if (pt_val (pe_h0 (h_is_within tx) hr2 (pa_cons (pv 2) (pa_cons (pv 3) (pa_cons (pv 4) (pa_cons (pv 6) pa_nil)))))) (pss_one (ps_ret (pv 5))) pss_nil)
      (pss_cons (ps_set (i := 7) nd rfl (Or.inl rfl) (pe_op op_fdiv (pv 6) pe_int))
      (pss_cons (ps_set (i := 8) nd rfl (Or.inl rfl) (pe_lst pa_nil))
      (pss_cons (ps_for PassesOwn.never rfl (pi_enumT rfl tx.z_enumerate (pa_cons (pe_glob (v := .ref (He.ga K "HALVES")) rfl tx.g_HALVES rfl) pa_nil))
          (pg_tup rfl (pgs_cons (pg_name (i := 9) nd rfl (Or.inl rfl)) (pgs_cons (pg_tup rfl (pgs_cons (pg_name (i := 10) nd rfl (Or.inl rfl)) (pgs_cons (pg_name (i := 11) nd rfl (Or.inl rfl)) pgs_nil))) pgs_nil)))
          (pss_cons (ps_set (i := 12) nd rfl (Or.inl rfl) (pe_h0 (h_quarter tx) hr1 (pa_cons (pv 0) (pa_cons (pv 9) pa_nil))))
          (pss_one (ps_expr (pe_bm PySem.F.plainAttrs_list PySem.F.slot_list_append PySem.F.type_list_append mt_append (pv 8) (pa_cons
            (pe_h0 IH hr (pa_cons (pv 12) (pa_cons (pe_op op_sub (pv 1) pe_int) (pa_cons (pv 2) (pa_cons (pe_op op_add (pv 3) (pe_op op_mul (pv 10) (pv 7))) (pa_cons (pe_op op_add (pv 4) (pe_op op_mul (pv 11) (pv 7))) (pa_cons (pv 5) pa_nil))))))) pa_nil))))))
      (pss_one (ps_ret (pe_h0 (h_four tx) hr1 (pa_cons (pv 8) pa_nil))))))))), ?_⟩
    refine ⟨_, rfl, _, _, _, V.int (2 ^ n), rfl, rfl, tx.t_SIDES _, atI_nat (sides_at (by omega)), ?_⟩
    refine ⟨_, rfl, _, rfl, _, rfl, _, rfl, b, l, t, wd, ht, left, top, 2 ^ n, rfl, hb, fun e => ?_, fun r e p hp => ?_⟩
    · refine ⟨_, rfl, iteT ⟨_, rfl, k H _ (Same.refl _) ?_⟩⟩
      rw [fill_none e]
      exact hd
    · refine ⟨_, rfl, iteF ?_⟩
      have s1 := same_upd (o := .tup [.int r.1, .int r.2.1, .int r.2.2.1, .int r.2.2.2]) hp
      refine ⟨_, rfl, _, rfl, _, rfl, _, rfl, b, l, t, wd, ht, left, top, 2 ^ n, r, rfl, same_sqT s1 hb, e, fun H2 s2 => ⟨_, rfl, ?_⟩⟩
      have s12 := Same.trans s1 s2
      refine ite2 (fun c => ?_) (fun c => ?_)
      · refine ⟨_, rfl, k H2 _ s12 ?_⟩
        rw [fill_in e (of_decide_eq_true c)]
        exact .int _
      · have nc : ¬ r = (left, left + 2 ^ n, top, top + 2 ^ n) := fun z => c (decide_eq_true z)
        cases n with
        | zero => exact absurd (ovl_one e) nc
        | succ n =>
          have hn3 : n ≤ 2 := by omega
          obtain ⟨m', rfl⟩ : ∃ m', m = m' + 1 := ⟨m - 1, by omega⟩
          have ep : (2 : Int) ^ (n + 1) / 2 = 2 ^ n := by
            rw [Int.pow_succ]
            omega
          have eb : (0 : Int) < 2 ^ n ∧ (2 : Int) ^ n ≤ 4 := by
            match n, hn3 with
            | 0, _ => decide
            | 1, _ => decide
            | 2, _ => decide
          refine ⟨_, rfl, _, _, rfl, rfl, ⟨by decide, by decide⟩, ?_⟩
          refine ⟨(by show 0 ≤ sizeLine; exact Nat.zero_le _), fun L hL => ?_⟩
          have s3 := Same.trans s12 (same_upd (o := .lst []) hL)
          refine ⟨_, _, rfl, tx.t_HALVES _, for_enumT (K := K) (a := He.ga K "HALVES") (xs := [V.ref (halfA K 0), V.ref (halfA K 1), V.ref (halfA K 2), V.ref (halfA K 3)])
            (fun i σ H' => ∃ (a9 a10 a11 a12 : Option V) (ys : List V), σ = [some v, some (.int ((n + 1 : Nat) : Int)), some (.ref b), some (.int left), some (.int top), some (.int wo), some (.int (2 ^ (n + 1))), some (.int (2 ^ n)), some (.ref L), a9, a10, a11, a12] ∧
              Same H H' ∧ H' L = some (.lst ys) ∧ ys.length = i ∧ ∀ j y, ys[j]? = some y → Dp K H' y (fillQ l t wd ht wo n tr left top j).d) ?_ (fun i σ H' _ => tx.t_HALVES _) ?_ ?_⟩
          · refine ⟨none, none, none, none, [], ?_, s3, upd_same, rfl, fun j y z => by simp at z⟩
            show [some v, _, _, _, _, _, _, some (V.int ((2 : Int) ^ (n + 1) / 2)), _, _, _, _, _] = _
            rw [ep]
          · rintro i x tt σ H' hx ⟨a9, a10, a11, a12, ys, rfl, s', hL', hl, hR⟩ htt
            obtain ⟨ha, rfl, hi, hh⟩ := halves (tx := tx) (H := upd H' tt (.tup [.int (i : Nat), x])) hx
            have s4 := same_upd (o := .tup [.int (i : Nat), .ref ha]) htt
            refine ⟨tt, _, rfl, SqT.of upd_same, rfl, _, _, rfl, _, _, rfl, ⟨ha, _, rfl, hh, rfl, _, _, rfl, _, _, rfl, rfl, rfl, ?_⟩⟩
            have s5 := Same.trans s' s4
            refine ⟨_, rfl, _, rfl, v, tr, i, rfl, hi, dp_same s5 hd, fun vq hq => ?_⟩
            have hL5 : (upd H' tt (.tup [.int (i : Nat), .ref ha])) L = some (.lst ys) := s4 _ _ hL'
            refine ⟨_, rfl, .inl ⟨rfl, _, SqL.of hL5⟩, _, rfl, _, rfl, _, _, rfl, rfl, _, rfl, _, rfl, _, rfl, _, rfl, _, _, rfl, rfl, .inl ?_, _, _, rfl, rfl, _, rfl, _, rfl, _, rfl, _, _, rfl, rfl, .inl ?_, _, _, rfl, rfl, _, rfl, ?_⟩
            · match i, hi with
              | 0, _ => decide
              | 1, _ => decide
              | 2, _ => decide
              | 3, _ => decide
            · match i, hi with
              | 0, _ => decide
              | 1, _ => decide
              | 2, _ => decide
              | 3, _ => decide
            · refine ⟨vq, q tr i, n, b, l, t, wd, ht, left + sel i 0 1 0 1 * 2 ^ n, top + sel i 0 0 1 1 * 2 ^ n, wo, ?_, by omega, by omega, q_ok ok i, hw, hq, same_sqT s5 hb, fun H6 v6 s6 d6 => ?_⟩
              · show [vq, V.int (((n + 1 : Nat) : Int) - 1), _, _, _, _] = [vq, V.int (n : Int), _, _, _, _]
                have e1 : ((n + 1 : Nat) : Int) - 1 = (n : Int) := by omega
                rw [e1]
              · have hL6 := s6 _ _ hL5
                refine ⟨L, ys, v6, rfl, rfl, hL6, (by have hs : sizeLine = 16777216 := sizeLine_eq; omega), ?_⟩
                refine ⟨_, _, _, _, ys ++ [v6], rfl, fun c o z => ?_, upd_same, by rw [List.length_append, hl]; rfl, fun j y z => ?_⟩
                · have hLn : H L = none := s12.free hL
                  rw [upd_ne (ne_of_none z hLn)]
                  exact s6 _ _ (s5 _ _ z)
                · refine but_tree hL6 but_upd ?_
                  by_cases hj : j < ys.length
                  · rw [List.getElem?_append_left hj] at z
                    exact dp_same (Same.trans s4 s6) (hR j y z)
                  · rw [List.getElem?_append_right (by omega)] at z
                    have hj0 : j - ys.length = 0 := by
                      by_cases z0 : j - ys.length = 0
                      · exact z0
                      · rw [List.getElem?_eq_none (by simp only [List.length_cons, List.length_nil]; omega)] at z
                        cases z
                    rw [hj0] at z
                    have e1 : v6 = y := Option.some.inj z
                    have e2 : j = i := by omega
                    rw [e2, ← e1]
                    exact d6
          · rintro σ H' ⟨a9, a10, a11, a12, ys, rfl, s', hL', hl, hR⟩
            obtain ⟨y0, y1, y2, y3, rfl⟩ := four_of_len hl
            have hw1 : 0 ≤ wo := by
              obtain ⟨z, _⟩ := Bool.and_eq_true_iff.mp hw
              exact of_decide_eq_true z
            have hw2 : wo ≤ 9 := by
              obtain ⟨_, z⟩ := Bool.and_eq_true_iff.mp hw
              exact of_decide_eq_true z
            have fo : ∀ j, T.ok n (fillQ l t wd ht wo n tr left top j) := fun j => fill_ok hw1 hw2 (q_ok ok j)
            refine ⟨_, rfl, L, y0, y1, y2, y3, _, _, _, _, n, rfl, SqL.of hL', hR 0 _ rfl, hR 1 _ rfl, hR 2 _ rfl, hR 3 _ rfl, ⟨by omega, fo 0, fo 1, fo 2, fo 3⟩, fun H7 v7 s7 d7 => k H7 v7 (Same.trans s' s7) ?_⟩
            rw [fill_four e nc]
            exact d7
theorem h_filled_tree (tx : Tx K mg) (m : Nat) : Has P w K mg base CX0 (m + 2 + 1) "filled_tree" ["tree", "size", "box", "left", "top", "worth"] (spFillT K m) := by
  obtain ⟨fd, F⟩ := tx.fn_filled_tree
  exact has_rec (has_false (st := s_filled_tree) F tx.g_filled_tree (fun _ _ _ _ _ _ us hl => match us, hl with | [_, _, _, _, _, _], _ => rfl)) (fun m => st_filled_tree tx m) m
/-! ### filled, put -/
def fillP (n : Nat) (t : T) (l tp w h wo : Int) : T := fill l tp w h wo n (lean t) 0 0
theorem fillP_ok {n : Nat} {t : T} {l tp w h wo : Int} (hw : worOk wo = true) (ok : T.ok n t) : T.ok n (fillP n t l tp w h wo) := by
  obtain ⟨z1, z2⟩ := Bool.and_eq_true_iff.mp hw
  exact fill_ok (of_decide_eq_true z1) (of_decide_eq_true z2) (lean_ok ok)
theorem sc_filled : FnScope ["picture", "box", "worth", "made"] ["picture", "box", "worth"] (defScope s_filled) := ⟨rfl, rfl, rfl, by decide +kernel, rfl, by decide +kernel, by decide +kernel⟩
def spFilled (K : PySem.W.Frag) : Sp := fun vs H Q E => ∃ (v : V) (n : Nat) (t : T) (b : Addr) (l tp w h wo : Int), vs = [v, .ref b, .int wo] ∧ n ≤ 3 ∧ T.ok n t ∧ Dp K H v (pd n t) ∧ SqT K H b [.int l, .int tp, .int w, .int h] ∧
  (boxOk n l tp w h = false → ∀ H', Same H H' → E (.ref (He.ga K "BadBox")) none H') ∧
  (boxOk n l tp w h = true → worOk wo = false → ∀ H', Same H H' → E (.ref (He.ga K "NoPicture")) none H') ∧
  (boxOk n l tp w h = true → worOk wo = true → ∀ H' v', Same H H' → Dp K H' v' (pd n (fillP n t l tp w h wo)) → Q v' H')
theorem pd_isP {n : Nat} {t : T} (hn : n ≤ 3) (ok : T.ok n t) (e : isP (pd n t) = false) {A : Prop} : A := by
  rw [isP_of hn ok] at e
  cases e
theorem pd_inj {n m : Nat} {t u : T} (h : pd n t = pd m u) : n = m ∧ t.d = u.d := by
  unfold pd at h
  injection h with h
  injection h with h1 h2
  injection h1 with h1
  injection h2 with h2 _
  exact ⟨by omega, h2⟩
theorem d_inj : ∀ {t u : T}, t.d = u.d → t = u
  | .leaf i, .leaf j, h => by
    have h' : PyData.int i = PyData.int j := h
    injection h' with h'
    rw [h']
  | .leaf i, .node a b c d, h => by
    have h' : PyData.int i = PyData.tuple [a.d, b.d, c.d, d.d] := h
    cases h'
  | .node a b c d, .leaf i, h => by
    have h' : PyData.tuple [a.d, b.d, c.d, d.d] = PyData.int i := h
    cases h'
  | .node a b c d, .node a' b' c' d', h => by
    have h' : PyData.tuple [a.d, b.d, c.d, d.d] = PyData.tuple [a'.d, b'.d, c'.d, d'.d] := h
    injection h' with h'
    injection h' with h1 h'
    injection h' with h2 h'
    injection h' with h3 h'
    injection h' with h4 _
    rw [d_inj h1, d_inj h2, d_inj h3, d_inj h4]
/-- lean's promise at a picture -/
theorem lean_at {H : Hp} {Q : VK} {E : XK} {v : V} {n : Nat} {t : T} (hn : n ≤ 3) (ok : T.ok n t) (hd : Dp K H v (pd n t)) (k : ∀ H' v', Same H H' → Dp K H' v' (pd n (lean t)) → Q v' H') : spLean K ([v] ++ []) H Q E :=
  ⟨v, pd n t, rfl, hd, fun e => pd_isP hn ok e, fun n' t' e _ _ => by
    obtain ⟨e1, e2⟩ := pd_inj e
    have e3 := d_inj e2
    subst e1 e3
    exact k⟩
theorem h_filled (tx : Tx K mg) : Has P w K mg base (L2.CX P w) 9 "filled" ["picture", "box", "worth"] (spFilled K) := by
  obtain ⟨fd, F⟩ := tx.fn_filled
  refine has_x (st := s_filled) F tx.g_filled sc_filled (fun _ _ _ _ _ _ us hl => match us, hl with | [_, _, _], _ => rfl) (fun vs H Q E h => ?_) (fun cdv A outer s H vs Q E hr h => ?_)
  · obtain ⟨v, n, t, b, l, tp, w, h, wo, rfl, _⟩ := h
    rfl
  · obtain ⟨v, n, t, b, l, tp, wd, ht, wo, rfl, hn, ok, hd, hb, k1, k2, k3⟩ := h
    have nd := sc_filled.nd
    refine ⟨_, pss_cons (ps_set (i := 3) nd rfl (Or.inl rfl) (pe_h (E := E) (h_lean tx) hr (passes_call (takes_of rfl rfl rfl rfl) fun _ _ _ _ z => z) (pa_cons (pv 0) pa_nil)))
      (pss_cons (ps_expr (pe_h (E := E) (h_look_box tx) (hr.mono (by decide)) (passes_call (takes_of rfl rfl rfl rfl) fun _ _ _ _ z => z) (pa_cons (pv 0) (pa_cons (pv 1) pa_nil))))
      (pss_cons (ps_expr (pe_h (E := E) (h_look_worth tx) (hr.mono (by decide)) (passes_call (takes_of rfl rfl rfl rfl) fun _ _ _ _ z => z) (pa_cons (pv 2) pa_nil)))
      (pss_one (ps_ret (pe_tup (pa_cons (pe_ix ix_tup (pv 3) pe_int (fun _ _ => rfl)) (pa_cons (pe_h0 (h_filled_tree tx 3) (hr.mono (by decide))
        (pa_cons (pe_ix ix_tup (pv 3) pe_int (fun _ _ => rfl)) (pa_cons (pe_ix ix_tup (pv 3) pe_int (fun _ _ => rfl)) (pa_cons (pv 1) (pa_cons pe_int (pa_cons pe_int (pa_cons (pv 2) pa_nil))))))) pa_nil))))))), ?_⟩
    refine ⟨_, rfl, lean_at hn ok hd fun H1 v1 s1 d1 => ?_⟩
    refine ⟨_, rfl, _, rfl, v, n, t, b, l, tp, wd, ht, rfl, hn, dp_same s1 hd, same_sqT s1 hb, fun eb => ?_, fun eb => k1 eb _ s1⟩
    refine ⟨_, rfl, wo, rfl, fun ew => ?_, fun ew => k2 eb ew _ s1⟩
    obtain ⟨p, u, rfl, hs, hu⟩ := dp_pd d1
    refine ⟨_, rfl, p, _, _, V.int n, rfl, rfl, hs, rfl, _, rfl, p, _, _, u, rfl, rfl, hs, rfl, _, rfl, p, _, _, V.int n, rfl, rfl, hs, rfl, _, rfl, _, rfl,
      u, lean t, n, b, l, tp, wd, ht, 0, 0, wo, rfl, hn, by decide, lean_ok ok, ew, hu, same_sqT s1 hb, fun H2 v2 s2 d2 => ?_⟩
    refine ⟨(by show 2 ≤ sizeLine; decide), fun r hr2 => k3 eb ew _ _ (fun c o z => same_upd hr2 c o (s2 c o (s1 c o z))) (pd_mk (SqT.of upd_same) (dp_same (same_upd hr2) d2))⟩
theorem sc_put : FnScope ["picture", "x", "y", "worth"] ["picture", "x", "y", "worth"] (defScope s_put) := ⟨rfl, rfl, rfl, by decide +kernel, rfl, by decide +kernel, by decide +kernel⟩
def spPut (K : PySem.W.Frag) : Sp := fun vs H Q E => ∃ (v : V) (n : Nat) (t : T) (x y wo : Int), vs = [v, .int x, .int y, .int wo] ∧ n ≤ 3 ∧ T.ok n t ∧ Dp K H v (pd n t) ∧
  (spotOk n x y = false → ∀ H', Same H H' → E (.ref (He.ga K "NoSpot")) none H') ∧
  (spotOk n x y = true → worOk wo = false → ∀ H', Same H H' → E (.ref (He.ga K "NoPicture")) none H') ∧
  (spotOk n x y = true → worOk wo = true → ∀ H' v', Same H H' → Dp K H' v' (pd n (fillP n t x y 1 1 wo)) → Q v' H')
theorem spot_box {n : Nat} {x y : Int} (h : spotOk n x y = true) : boxOk n x y 1 1 = true := by
  unfold spotOk at h
  obtain ⟨h1, h2⟩ := Bool.and_eq_true_iff.mp h
  obtain ⟨h3, h4⟩ := Bool.and_eq_true_iff.mp h1
  obtain ⟨h5, h6⟩ := Bool.and_eq_true_iff.mp h2
  have h3' := of_decide_eq_true h3
  have h4' := of_decide_eq_true h4
  have h5' := of_decide_eq_true h5
  have h6' := of_decide_eq_true h6
  generalize hp : (2 : Int) ^ n = p at *
  unfold boxOk
  rw [hp, decide_eq_true h3', decide_eq_true h5', decide_eq_true (show (1 : Int) ≤ 1 by decide), decide_eq_true (show (1 : Int) ≤ p - x by omega), decide_eq_true (show (1 : Int) ≤ p - y by omega)]
  rfl
theorem h_put (tx : Tx K mg) : Has P w K mg base (L2.CX P w) 10 "put" ["picture", "x", "y", "worth"] (spPut K) := by
  obtain ⟨fd, F⟩ := tx.fn_put
  refine has_x (st := s_put) F tx.g_put sc_put (fun _ _ _ _ _ _ us hl => match us, hl with | [_, _, _, _], _ => rfl) (fun vs H Q E h => ?_) (fun cdv A outer s H vs Q E hr h => ?_)
  · obtain ⟨v, n, t, x, y, wo, rfl, _⟩ := h
    rfl
  · obtain ⟨v, n, t, x, y, wo, rfl, hn, ok, hd, k1, k2, k3⟩ := h
    refine ⟨_, pss_cons (ps_expr (pe_h (E := E) (h_look_picture tx) (hr.mono (by decide)) (passes_call (takes_of rfl rfl rfl rfl) fun _ _ _ _ z => z) (pa_cons (pv 0) pa_nil)))
      (pss_cons (ps_expr (pe_h (E := E) (h_look_spot tx) (hr.mono (by decide)) (passes_call (takes_of rfl rfl rfl rfl) fun _ _ _ _ z => z) (pa_cons (pv 0) (pa_cons (pv 1) (pa_cons (pv 2) pa_nil)))))
      (pss_one (ps_ret (pe_h (E := E) (h_filled tx) hr (passes_call (takes_of rfl rfl rfl rfl) fun _ _ _ _ z => z)
        (pa_cons (pv 0) (pa_cons (pe_tup (pa_cons (pv 1) (pa_cons (pv 2) (pa_cons pe_int (pa_cons pe_int pa_nil))))) (pa_cons (pv 3) pa_nil))))))), ?_⟩
    refine ⟨_, rfl, v, pd n t, rfl, hd, fun _ H1 s1 => ?_, fun e => pd_isP hn ok e⟩
    refine ⟨_, rfl, _, rfl, _, rfl, v, n, t, x, y, rfl, hn, dp_same s1 hd, fun es => ?_, fun es => k1 es _ s1⟩
    refine ⟨_, rfl, _, rfl, _, rfl, (by show 4 ≤ sizeLine; decide), fun p hp => ?_⟩
    have s2 := Same.trans s1 (same_upd (o := .tup [.int x, .int y, .int 1, .int 1]) hp)
    refine ⟨_, rfl, v, n, t, p, x, y, 1, 1, wo, rfl, hn, ok, dp_same s2 hd, SqT.of upd_same, fun e => ?_, fun _ ew H3 s3 => k2 es ew _ (Same.trans s2 s3), fun _ ew H3 v3 s3 d3 => k3 es ew _ _ (Same.trans s2 s3) d3⟩
    rw [spot_box es] at e
    cases e
end
end Ff
set_option Elab.async false
set_option linter.all false
set_option maxRecDepth 100000
set_option maxHeartbeats 2000000
namespace Ff
open PySem PySem.Spec PyProof.Rows L2
section
variable {P : Program} {w : World} {K : PySem.W.Frag} {mg : Str → Option Value} {base : Heap}
/-! ### moved_tree -/
theorem sc_moved_tree : FnScope ["tree", "order", "number"] ["tree", "order"] (defScope s_moved_tree) := ⟨rfl, rfl, rfl, by decide +kernel, rfl, by decide +kernel, by decide +kernel⟩
def spMove (K : PySem.W.Frag) (m : Nat) : Sp := fun vs H Q _ => ∃ (v : V) (t : T) (o : Nat → Nat) (p : Addr), vs = [v, .ref p] ∧ (∀ k, o k < 4) ∧ T.ok m t ∧ Dp K H v t.d ∧ SqT K H p [.int (o 0 : Nat), .int (o 1 : Nat), .int (o 2 : Nat), .int (o 3 : Nat)] ∧ ∀ H' v', Same H H' → Dp K H' v' (move o t).d → Q v' H'
theorem st_moved_tree (tx : Tx K mg) (m : Nat) (IH : Has P w K mg base CX0 (m + 1) "moved_tree" ["tree", "order"] (dn (spMove K) m)) : Has P w K mg base CX0 (m + 1 + 1) "moved_tree" ["tree", "order"] (spMove K m) := by
  obtain ⟨fd, F⟩ := tx.fn_moved_tree
  refine has_n (st := s_moved_tree) F tx.g_moved_tree sc_moved_tree (fun _ _ _ _ _ _ us hl => match us, hl with | [_, _], _ => rfl) (fun vs H Q E h => ?_) (fun cdv A outer s H vs Q E hr h => ?_)
  · obtain ⟨v, t, o, p, rfl, _⟩ := h
    rfl
  · obtain ⟨v, t, o, p0, rfl, ho, ok, hd, hp, k⟩ := h
    have nd := sc_moved_tree.nd
    refine ⟨_, pss_cons (ps_if (pt_not (pt_val (pe_isU tx.z_isinstance tx.z_tuple (pv 0)))) (pss_one (ps_ret (pv 0))) pss_nil)
      (pss_one (ps_ret (pe_callTy call_tuple_of (by rfl) tx.z_tuple b_tuple (pa_cons (pe_lc (own := [("number", 2)]) (g := gName 2) (tt := tYes) rfl nd (pi_tup (pv 1)) (blkOk_by (N := ["tree", "order", "number"]) (sc := defScope s_moved_tree) (by decide +kernel))
        (fun _ _ _ _ _ => pg_name (i := 2) nd rfl (Or.inl rfl)) (fun _ _ _ _ _ => pts_nil) (fun _ _ _ _ _ => pe_h0 IH hr (pa_cons (pe_ix (r := rIxT K) ix_tup (pv 0) (pv 2) (fun _ _ => rfl)) (pa_cons (pv 1) pa_nil)))) pa_nil)))), ?_⟩
    refine ⟨_, rfl, v, t.d, rfl, hd, _, rfl, ?_⟩
    cases t with
    | leaf i => exact iteT ⟨_, rfl, k H _ (Same.refl _) hd⟩
    | node a b c d =>
      refine iteF ?_
      obtain ⟨p, va, vb, vc, vd, rfl, hs, h1, h2, h3, h4⟩ := dp_node hd
      cases m with
      | zero => exact ok.elim
      | succ m =>
        obtain ⟨oa, ob, oc, od⟩ := ok
        refine ⟨_, rfl, p0, rfl, ⟨_, hp⟩, fun D hD => ?_⟩
        refine lc_tupR (K := K) (xs := [.int (o 0 : Nat), .int (o 1 : Nat), .int (o 2 : Nat), .int (o 3 : Nat)]) (fun j y H => Dp K H y (move o (sel (o j) a b c d)).d) (fun j y H H' acc e b z => but_tree e b z) hD hp (by simp) (fun _ => rfl) ?_ ?_
        · intro j x H' Q' hx s' kq
          obtain ⟨hj, rfl⟩ := get4 hx
          have ex : sel j (V.int (o 0 : Nat)) (V.int (o 1 : Nat)) (V.int (o 2 : Nat)) (V.int (o 3 : Nat)) = V.int (o j : Nat) := by
            match j, hj with
            | 0, _ => rfl
            | 1, _ => rfl
            | 2, _ => rfl
            | 3, _ => rfl
          rw [ex]
          have hoj := ho j
          have hit : ([va, vb, vc, vd] : List V)[o j]? = some (sel (o j) va vb vc vd) := by
            generalize o j = z at hoj
            match z, hoj with
            | 0, _ => rfl
            | 1, _ => rfl
            | 2, _ => rfl
            | 3, _ => rfl
          have hdd : Dp K H (sel (o j) va vb vc vd) (sel (o j) a b c d).d := by
            generalize o j = z at hoj
            match z, hoj with
            | 0, _ => exact h1
            | 1, _ => exact h2
            | 2, _ => exact h3
            | 3, _ => exact h4
          refine ⟨_, rfl, _, rfl, p, _, _, _, rfl, rfl, same_sqT s' hs, atI_nat hit, _, rfl, ?_⟩
          exact ⟨_, sel (o j) a b c d, o, p0, rfl, ho, sel_all (P := T.ok m) (o j) oa ob oc od, dp_same s' hdd, same_sqT s' hp, fun H2 v2 s2 d2 => kq v2 H2 s2 d2⟩
        · intro ys H' s' hy hl hR
          obtain ⟨y0, y1, y2, y3, rfl⟩ := four_of_len hl
          refine ⟨D, _, rfl, .inl ⟨SqL.of hy, fun r hr2 => k _ _ (fun c o z => same_upd hr2 c o (s' c o z)) ?_⟩⟩
          have e4 : move o (.node a b c d) = .node (move o (sel (o 0) a b c d)) (move o (sel (o 1) a b c d)) (move o (sel (o 2) a b c d)) (move o (sel (o 3) a b c d)) := by
            rw [sel_map (move o), sel_map (move o), sel_map (move o), sel_map (move o)]
            rfl
          rw [e4]
          have st := fun {t : T} {v : V} (z : Dp K H' v t.d) => dp_same (same_upd (o := .tup [y0, y1, y2, y3]) hr2) z
          exact dp_mk (SqT.of upd_same) (st (hR 0 _ rfl)) (st (hR 1 _ rfl)) (st (hR 2 _ rfl)) (st (hR 3 _ rfl))
theorem h_moved_tree (tx : Tx K mg) (m : Nat) : Has P w K mg base CX0 (m + 1 + 1) "moved_tree" ["tree", "order"] (spMove K m) := by
  obtain ⟨fd, F⟩ := tx.fn_moved_tree
  exact has_rec (has_false (st := s_moved_tree) F tx.g_moved_tree (fun _ _ _ _ _ _ us hl => match us, hl with | [_, _], _ => rfl)) (fun m => st_moved_tree tx m) m
/-! ### turned, mirrored -/
def spTurn (K : PySem.W.Frag) (f : T → T) : Sp := fun vs H Q _ => ∃ (v : V) (n : Nat) (t : T), vs = [v] ∧ n ≤ 3 ∧ T.ok n t ∧ Dp K H v (pd n t) ∧ ∀ H' v', Same H H' → Dp K H' v' (pd n (f t)) → Q v' H'
theorem oTurn_lt (k : Nat) : oTurn k < 4 := sel_all (P := fun x => x < 4) k (by decide) (by decide) (by decide) (by decide)
theorem oMirr_lt (k : Nat) : oMirr k < 4 := sel_all (P := fun x => x < 4) k (by decide) (by decide) (by decide) (by decide)
theorem sc_turned : FnScope ["picture", "made"] ["picture"] (defScope s_turned) := ⟨rfl, rfl, rfl, by decide +kernel, rfl, by decide +kernel, by decide +kernel⟩
theorem h_turned (tx : Tx K mg) : Has P w K mg base CX0 9 "turned" ["picture"] (spTurn K turned) := by
  obtain ⟨fd, F⟩ := tx.fn_turned
  refine has_n (st := s_turned) F tx.g_turned sc_turned (fun _ _ _ _ _ _ us hl => match us, hl with | [_], _ => rfl) (fun vs H Q E h => ?_) (fun cdv A outer s H vs Q E hr h => ?_)
  · obtain ⟨v, n, t, rfl, _⟩ := h
    rfl
  · obtain ⟨v, n, t, rfl, hn, ok, hd, k⟩ := h
    have nd := sc_turned.nd
    refine ⟨_, pss_cons (ps_set (i := 1) nd rfl (Or.inl rfl) (pe_h (E := E0) (h_lean tx) hr passL (pa_cons (pv 0) pa_nil)))
      (pss_one (ps_ret (pe_tup (pa_cons (pe_ix ix_tup (pv 1) pe_int (fun _ _ => rfl)) (pa_cons (pe_h0 (h_moved_tree tx 3) (hr.mono (by decide))
        (pa_cons (pe_ix ix_tup (pv 1) pe_int (fun _ _ => rfl)) (pa_cons (pe_tup (pa_cons pe_int (pa_cons pe_int (pa_cons pe_int (pa_cons pe_int pa_nil))))) pa_nil))) pa_nil))))), ?_⟩
    refine ⟨_, rfl, lean_at hn ok hd fun H1 v1 s1 d1 => ?_⟩
    obtain ⟨p, u, rfl, hs, hu⟩ := dp_pd d1
    refine ⟨_, rfl, p, _, _, V.int n, rfl, rfl, hs, rfl, _, rfl, p, _, _, u, rfl, rfl, hs, rfl, (by show 4 ≤ sizeLine; decide), fun r hr1 => ?_⟩
    have s2 := same_upd (o := .tup [.int 2, .int 0, .int 3, .int 1]) hr1
    refine ⟨u, lean t, oTurn, r, rfl, oTurn_lt, ok_le hn (lean_ok ok), dp_same s2 hu, SqT.of upd_same, fun H3 v3 s3 d3 => ?_⟩
    refine ⟨(by show 2 ≤ sizeLine; decide), fun r2 hr2 => k _ _ (fun c o z => same_upd hr2 c o (s3 c o (s2 c o (s1 c o z)))) (pd_mk (SqT.of upd_same) (dp_same (same_upd hr2) d3))⟩
theorem sc_mirrored : FnScope ["picture", "made"] ["picture"] (defScope s_mirrored) := ⟨rfl, rfl, rfl, by decide +kernel, rfl, by decide +kernel, by decide +kernel⟩
theorem h_mirrored (tx : Tx K mg) : Has P w K mg base CX0 9 "mirrored" ["picture"] (spTurn K mirrored) := by
  obtain ⟨fd, F⟩ := tx.fn_mirrored
  refine has_n (st := s_mirrored) F tx.g_mirrored sc_mirrored (fun _ _ _ _ _ _ us hl => match us, hl with | [_], _ => rfl) (fun vs H Q E h => ?_) (fun cdv A outer s H vs Q E hr h => ?_)
  · obtain ⟨v, n, t, rfl, _⟩ := h
    rfl
  · obtain ⟨v, n, t, rfl, hn, ok, hd, k⟩ := h
    have nd := sc_mirrored.nd
    refine ⟨_, pss_cons (ps_set (i := 1) nd rfl (Or.inl rfl) (pe_h (E := E0) (h_lean tx) hr passL (pa_cons (pv 0) pa_nil)))
      (pss_one (ps_ret (pe_tup (pa_cons (pe_ix ix_tup (pv 1) pe_int (fun _ _ => rfl)) (pa_cons (pe_h0 (h_moved_tree tx 3) (hr.mono (by decide))
        (pa_cons (pe_ix ix_tup (pv 1) pe_int (fun _ _ => rfl)) (pa_cons (pe_tup (pa_cons pe_int (pa_cons pe_int (pa_cons pe_int (pa_cons pe_int pa_nil))))) pa_nil))) pa_nil))))), ?_⟩
    refine ⟨_, rfl, lean_at hn ok hd fun H1 v1 s1 d1 => ?_⟩
    obtain ⟨p, u, rfl, hs, hu⟩ := dp_pd d1
    refine ⟨_, rfl, p, _, _, V.int n, rfl, rfl, hs, rfl, _, rfl, p, _, _, u, rfl, rfl, hs, rfl, (by show 4 ≤ sizeLine; decide), fun r hr1 => ?_⟩
    have s2 := same_upd (o := .tup [.int 1, .int 0, .int 3, .int 2]) hr1
    refine ⟨u, lean t, oMirr, r, rfl, oMirr_lt, ok_le hn (lean_ok ok), dp_same s2 hu, SqT.of upd_same, fun H3 v3 s3 d3 => ?_⟩
    refine ⟨(by show 2 ≤ sizeLine; decide), fun r2 hr2 => k _ _ (fun c o z => same_upd hr2 c o (s3 c o (s2 c o (s1 c o z)))) (pd_mk (SqT.of upd_same) (dp_same (same_upd hr2) d3))⟩
/-! ### look_way, by_way -/
def wayOk (i : Int) : Bool := decide (0 ≤ i) && decide (i < 8)
theorem sc_look_way : FnScope ["way"] ["way"] (defScope s_look_way) := ⟨rfl, rfl, rfl, by decide +kernel, rfl, by decide +kernel, by decide +kernel⟩
def spLookWay (K : PySem.W.Frag) : Sp := fun vs H Q E => ∃ i : Int, vs = [.int i] ∧ (wayOk i = true → Q .non H) ∧ (wayOk i = false → E (.ref (He.ga K "NoSpot")) none H)
theorem h_look_way (tx : Tx K mg) : Has P w K mg base (L2.CX P w) 1 "look_way" ["way"] (spLookWay K) := by
  obtain ⟨fd, F⟩ := tx.fn_look_way
  obtain ⟨xP, kP, bP, tP⟩ := tx.x_NoSpot
  obtain ⟨tw, hw⟩ := tx.i_WAYS
  refine has_x (st := s_look_way) F tx.g_look_way sc_look_way (fun _ _ _ _ _ _ us hl => match us, hl with | [_], _ => rfl) (fun vs H Q E h => ?_) (fun cdv A outer s H vs Q E hr h => ?_)
  · obtain ⟨i, rfl, _⟩ := h
    rfl
  · obtain ⟨i, rfl, k1, k2⟩ := h
    refine ⟨_, pss_one (ps_if (pt_not (pt_chain op_le op_lt pe_int (pv 0) (pe_glob (v := .int 8) rfl hw ⟨_, rfl⟩)))
      (pss_one (ps_raise rfl (takes_of rfl rfl rfl rfl) (pmk_own PySem.F.excBase_ValueError xP tx.g_NoSpot kP (raises_own bP tP) rfl))) pss_nil), ?_⟩
    refine ⟨_, rfl, _, _, rfl, rfl, _, rfl, ?_⟩
    unfold wayOk at k1 k2
    by_cases c1 : 0 ≤ i
    · rw [decide_eq_true c1] at k1 k2 ⊢
      refine iteT ⟨_, _, rfl, rfl, _, rfl, ?_⟩
      by_cases c2 : i < 8
      · rw [decide_eq_true c2] at k1 k2 ⊢
        exact iteF (k1 rfl)
      · rw [decide_eq_false c2] at k1 k2 ⊢
        exact iteT (k2 rfl)
    · rw [decide_eq_false c1] at k1 k2 ⊢
      exact iteF ⟨_, rfl, iteT (k2 rfl)⟩
theorem sc_by_way : FnScope ["picture", "way", "made", "again"] ["picture", "way"] (defScope s_by_way) := ⟨rfl, rfl, rfl, by decide +kernel, rfl, by decide +kernel, by decide +kernel⟩
def spByWay (K : PySem.W.Frag) : Sp := fun vs H Q E => ∃ (v : V) (n : Nat) (t : T) (way : Int), vs = [v, .int way] ∧ n ≤ 3 ∧ T.ok n t ∧ Dp K H v (pd n t) ∧
  (wayOk way = false → ∀ H', Same H H' → E (.ref (He.ga K "NoSpot")) none H') ∧ (wayOk way = true → ∀ H' v', Same H H' → Dp K H' v' (pd n (byWay way t)) → Q v' H')
theorem h_by_way (tx : Tx K mg) : Has P w K mg base (L2.CX P w) 10 "by_way" ["picture", "way"] (spByWay K) := by
  obtain ⟨fd, F⟩ := tx.fn_by_way
  refine has_x (st := s_by_way) F tx.g_by_way sc_by_way (fun _ _ _ _ _ _ us hl => match us, hl with | [_, _], _ => rfl) (fun vs H Q E h => ?_) (fun cdv A outer s H vs Q E hr h => ?_)
  · obtain ⟨v, n, t, way, rfl, _⟩ := h
    rfl
  · obtain ⟨v, n, t, way, rfl, hn, ok, hd, k1, k2⟩ := h
    have nd := sc_by_way.nd
    refine ⟨_, pss_cons (ps_set (i := 2) nd rfl (Or.inl rfl) (pe_h (E := E) (h_lean tx) (hr.mono (by decide)) (passes_call (takes_of rfl rfl rfl rfl) fun _ _ _ _ z => z) (pa_cons (pv 0) pa_nil)))
      (pss_cons (ps_expr (pe_h (E := E) (h_look_way tx) (hr.mono (by decide)) (passes_call (takes_of rfl rfl rfl rfl) fun _ _ _ _ z => z) (pa_cons (pv 1) pa_nil)))
      (pss_cons (ps_set (i := 2) nd rfl (Or.inl rfl) (pe_ifExp (pt_cmpR op_ge (pv 1) pe_int (nomark _)) (pe_h0 (h_mirrored tx) hr (pa_cons (pv 2) pa_nil)) (pv 2)))
      (pss_cons (ps_for (passes_of rfl) rfl (pi_range1 rfl tx.z_range (pa_cons (pe_op op_mod (pv 1) pe_int) pa_nil)) (pg_name (i := 3) nd rfl (Or.inl rfl))
        (pss_one (ps_set (i := 2) nd rfl (Or.inl rfl) (pe_h0 (h_turned tx) hr (pa_cons (pv 2) pa_nil)))))
      (pss_one (ps_ret (pv 2)))))), ?_⟩
    refine ⟨_, rfl, lean_at hn ok hd fun H1 v1 s1 d1 => ?_⟩
    refine ⟨_, rfl, way, rfl, fun hw => ?_, fun hw => k1 hw _ s1⟩
    have key : ∀ (H2 : Hp) (v2 : V), Same H H2 → Dp K H2 v2 (pd n (if 4 ≤ way then mirrored (lean t) else lean t)) →
        tSeq (tFor (iRng1 (tCons (tOp (rI (fun _ j => 0 < j) fun i j => .int (i % j)) (tVar 1) (tC (.int 4))) tNil)) (gName 3) (tAsg (tCall (spTurn K turned) [] E0 (tCons (tVar 2) tNil)) (gName 2))) (tRet (tVar 2)) { nx := fun _ H' => Q .non H', rt := Q } [some v, some (.int way), some v2, none] H2 := by
      intro H2 v2 s2 d2
      have okb : T.ok n (if 4 ≤ way then mirrored (lean t) else lean t) := by
        split
        · exact mirrored_ok (lean_ok ok)
        · exact lean_ok ok
      have hb : 0 ≤ way % 4 ∧ way % 4 < 4 := by omega
      refine ⟨_, rfl, _, _, rfl, rfl, (by show (0 : Int) < 4; decide), way % 4, rfl, by omega, by omega, for_range (lo := 0) (n := (way % 4).toNat) (fun i σ H' => ∃ (v' : V) (a3 : Option V), σ = [some v, some (.int way), some v', a3] ∧ Same H H' ∧ Dp K H' v' (pd n (iter turned i (if 4 ≤ way then mirrored (lean t) else lean t))))
        ⟨v2, none, rfl, s2, d2⟩ ?_ ?_⟩
      · rintro i σ H' hi ⟨v', a3, rfl, s', d'⟩
        exact ⟨_, rfl, v', n, _, rfl, hn, iter_ok okb i, d', fun H6 v6 s6 d6 => ⟨v6, _, rfl, Same.trans s' s6, d6⟩⟩
      · rintro σ H' ⟨v', a3, rfl, s', d'⟩
        exact ⟨_, rfl, k2 hw H' v' s' d'⟩
    refine ⟨_, rfl, _, _, rfl, rfl, _, rfl, ?_⟩
    by_cases c : 4 ≤ way
    · rw [decide_eq_true c]
      refine iteT ⟨_, rfl, v1, n, lean t, rfl, hn, lean_ok ok, d1, fun H2 v2 s2 d2 => ?_⟩
      refine key H2 v2 (Same.trans s1 s2) ?_
      rw [if_pos c]
      exact d2
    · rw [decide_eq_false c]
      refine iteF ⟨_, rfl, key H1 v1 s1 ?_⟩
      rw [if_neg c]
      exact d1
end
end Ff
set_option Elab.async false
set_option linter.all false
set_option maxRecDepth 100000
set_option maxHeartbeats 2000000
namespace Ff
open PySem PySem.Spec PyProof.Rows L2
/-! ### what a painter is -/
theorem ne_sp : ¬ (("shelf" : Str) = "place") := by decide +kernel
theorem ne_ps : ¬ (("place" : Str) = "shelf") := by decide +kernel
/-- the attributes -/
def pf (l : Addr) (i : Int) : List (Str × V) := [("shelf", V.ref l), ("place", V.int i)]
theorem pf_mk (l : Addr) (i : Int) : putF "place" (.int i) (putF "shelf" (.ref l) []) = pf l i := by
  show (if ("shelf" : Str) = "place" then _ else (("shelf" : Str), V.ref l) :: putF "place" (.int i) []) = pf l i
  rw [if_neg ne_sp]
  rfl
theorem pf_shelf (l : Addr) (i : Int) : (pf l i).lookup ("shelf" : Str) = some (.ref l) := by
  rw [← pf_mk, lookup_putF, if_neg ne_sp, lookup_putF, if_pos rfl]
theorem pf_place (l : Addr) (i : Int) : (pf l i).lookup ("place" : Str) = some (.int i) := by
  rw [← pf_mk, lookup_putF, if_pos rfl]
theorem pf_no (l : Addr) (i : Int) {m : Str} (h1 : ¬ m = "place") (h2 : ¬ m = "shelf") : (pf l i).lookup m = none := by
  rw [← pf_mk, lookup_putF, if_neg h1, lookup_putF, if_neg h2]
  rfl
theorem pf_setS (l l' : Addr) (i : Int) : putF "shelf" (.ref l') (pf l i) = pf l' i := by
  show (if ("shelf" : Str) = "shelf" then (("shelf" : Str), V.ref l') :: [(("place" : Str), V.int i)] else _) = pf l' i
  rw [if_pos rfl]
  rfl
theorem pf_setP (l : Addr) (i i' : Int) : putF "place" (.int i') (pf l i) = pf l i' := by
  show (if ("shelf" : Str) = "place" then _ else (("shelf" : Str), V.ref l) :: (if ("place" : Str) = "place" then [(("place" : Str), V.int i')] else _)) = pf l i'
  rw [if_neg ne_sp, if_pos rfl]
  rfl
/-- values that are these pictures -/
def Pics (K : PySem.W.Frag) (H : Hp) (n : Nat) (vs : List V) (ts : List T) : Prop := vs.length = ts.length ∧ ∀ (j : Nat) (v : V), vs[j]? = some v → ∃ t : T, ts[j]? = some t ∧ Dp K H v (pd n t)
theorem Pics.get {K : PySem.W.Frag} {H : Hp} {n : Nat} {vs : List V} {ts : List T} (h : Pics K H n vs ts) {i : Nat} (hi : i < ts.length) : ∃ v t, vs[i]? = some v ∧ ts[i]? = some t ∧ Dp K H v (pd n t) := by
  have hv : i < vs.length := by rw [h.1]; exact hi
  obtain ⟨t, e, d⟩ := h.2 i _ (List.getElem?_eq_getElem hv)
  exact ⟨_, t, List.getElem?_eq_getElem hv, e, d⟩
theorem Pics.mono {K : PySem.W.Frag} {H H' : Hp} {n : Nat} {vs : List V} {ts : List T} (hT : ∀ a xs, SqT K H a xs → SqT K H' a xs) (h : Pics K H n vs ts) : Pics K H' n vs ts :=
  ⟨h.1, fun j v e => let ⟨t, e2, d⟩ := h.2 j v e; ⟨t, e2, dp_pic hT d⟩⟩
theorem Pics.one {K : PySem.W.Frag} {H : Hp} {n : Nat} {v : V} {t : T} (d : Dp K H v (pd n t)) : Pics K H n [v] [t] :=
  ⟨rfl, fun j u e => by
    match j, e with
    | 0, e => cases e; exact ⟨t, rfl, d⟩⟩
theorem Pics.add {K : PySem.W.Frag} {H : Hp} {n : Nat} {vs : List V} {ts : List T} (h : Pics K H n vs ts) {v : V} {t : T} (k : Nat) (hk : k ≤ ts.length) (d : Dp K H v (pd n t)) : Pics K H n (vs.take k ++ [v]) (ts.take k ++ [t]) := by
  have h1 := h.1
  refine ⟨by simp only [List.length_append, List.length_take, List.length_cons, List.length_nil]; omega, fun j u e => ?_⟩
  by_cases hj : j < k
  · rw [List.getElem?_append_left (by simp only [List.length_take]; omega), List.getElem?_take_of_lt hj] at e
    rw [List.getElem?_append_left (by simp only [List.length_take]; omega), List.getElem?_take_of_lt hj]
    exact h.2 j u e
  · rw [List.getElem?_append_right (by simp only [List.length_take]; omega)] at e
    rw [List.getElem?_append_right (by simp only [List.length_take]; omega)]
    have l1 : (vs.take k).length = k := by simp only [List.length_take]; omega
    have l2 : (ts.take k).length = k := by simp only [List.length_take]; omega
    rw [l1] at e
    rw [l2]
    have hz : j - k = 0 := by
      by_cases z0 : j - k = 0
      · exact z0
      · rw [List.getElem?_eq_none (by simp only [List.length_cons, List.length_nil]; omega)] at e
        cases e
    rw [hz] at e ⊢
    cases e
    exact ⟨t, rfl, d⟩
/-- a painter at p: these pictures, this place -/
structure PaintAt (K : PySem.W.Frag) (H : Hp) (p : Addr) (n : Nat) (ts : List T) (i : Nat) : Prop where
  n3 : n ≤ 3
  ok : ∀ t ∈ ts, T.ok n t
  lt : i < ts.length
  le : ts.length ≤ 100
  at_ : ∃ dx l vs, H p = some (.ins (He.ga K "Painter") dx (pf l i)) ∧ H l = some (.lst vs) ∧ Pics K H n vs ts
/-- all but the instance at p stands -/
def But1 (p : Addr) (H H' : Hp) : Prop := ∀ a o, a ≠ p → H a = some o → H' a = some o
theorem But1.of {p : Addr} {H H' : Hp} (e : Same H H') : But1 p H H' := fun a o _ h => e a o h
theorem But1.trans {p : Addr} {H H1 H2 : Hp} (a : But1 p H H1) (b : But1 p H1 H2) : But1 p H H2 := fun c o n h => b c o n (a c o n h)
theorem but1_upd {p : Addr} {H : Hp} {o : HO} : But1 p H (upd H p o) := fun a u ne e => by
  rw [upd_ne ne]
  exact e
theorem but1_sqT {K : PySem.W.Frag} {p C dx : Addr} {fs : List (Str × V)} {H H' : Hp} (hp : H p = some (.ins C dx fs)) (b : But1 p H H') {a : Addr} {xs : List V} (h : SqT K H a xs) : SqT K H' a xs := by
  rcases h with (h | ⟨o, h⟩) | h
  · exact .inl (.inl (b _ _ (ne_of h hp (by intro z; cases z)) h))
  · exact .inl (.inr ⟨o, b _ _ (ne_of h hp (by intro z; cases z)) h⟩)
  · exact .inr h
theorem paint_same {K : PySem.W.Frag} {H H' : Hp} {p : Addr} {n : Nat} {ts : List T} {i : Nat} (e : Same H H') (h : PaintAt K H p n ts i) : PaintAt K H' p n ts i := by
  obtain ⟨a, b, c, d, dx, l, vs, h1, h2, h3⟩ := h
  exact ⟨a, b, c, d, dx, l, vs, e _ _ h1, e _ _ h2, h3.mono fun _ _ z => same_sqT e z⟩
/-- the place moved -/
theorem paint_move {K : PySem.W.Frag} {H : Hp} {p dx l : Addr} {n : Nat} {ts : List T} {i j : Nat} {vs : List V} (n3 : n ≤ 3) (ok : ∀ t ∈ ts, T.ok n t) (le : ts.length ≤ 100) (h1 : H p = some (.ins (He.ga K "Painter") dx (pf l i))) (h2 : H l = some (.lst vs)) (h3 : Pics K H n vs ts) (hj : j < ts.length) :
    PaintAt K (upd H p (.ins (He.ga K "Painter") dx (pf l j))) p n ts j :=
  ⟨n3, ok, hj, le, dx, l, vs, upd_same, by rw [upd_ne (ne_of h2 h1 (by intro z; cases z))]; exact h2, h3.mono fun _ _ z => but1_sqT h1 but1_upd z⟩
/-! ### a method by its name -/
structure HasM (P : Program) (w : World) (K : PySem.W.Frag) (mg : Str → Option Value) (base : Heap) (CX : CXT) (k : Nat) (m : Str) (ps : List Str) (sp : Sp) : Prop where
  fn : ∃ fd, Binds K fd ps [] ∧ FnOk P w K mg base CX k (He.ma K (He.ga K "Painter") m) fd ps sp
section
variable {P : Program} {w : World} {K : PySem.W.Frag} {mg : Str → Option Value} {base : Heap}
theorem hasM_n {x qual : Str} {st : Stmt} {fd : FuncData} {N ps : List Str} {k : Nat} {sp : Sp} (F : FunD K x qual (defArgs st) (defBody st) (defScope st) [] [] (He.ma K (He.ga K "Painter") x) fd) (S : FnScope N ps (defScope st))
    (hb : ∀ (kV doc pm : Value) (an : Option Addr) (cdv ct : Value) (us : List Value), us.length = ps.length → bindArgs (PySem.W.fnOf x qual (defArgs st) (defBody st) (defScope st) .none kV doc pm an cdv ct) ⟨us, []⟩ = pure (ps.zip us))
    (len : ∀ vs H Q E, sp vs H Q E → vs.length = ps.length)
    (hbody : ∀ (cdv : Value) (A : Around) (outer : List Env) (s : Shared) (H : Hp) (vs : List V) (Q : VK) (E : XK), Room k (A.deeper (envOfC qual (defScope st) s.heap.objs.size (He.ma K (He.ga K "Painter") x) cdv)) → sp vs H Q E →
      ∃ t, PSs (cxOf CX0 P w K mg base N qual (defScope st) (He.ma K (He.ga K "Painter") x) cdv A outer s H E).nox (defBody st) t ∧ t { nx := fun _ H' => Q .non H', rt := Q } (start N vs) H) : HasM P w K mg base CX0 (k + 1) x ps sp :=
  ⟨fd, F.bindsN hb, F.ok S len fun cdv A outer s H vs Q E hr h => let ⟨t, h1, h2⟩ := hbody cdv A outer s H vs Q E hr h; ⟨t, h1.nox, h2⟩⟩
theorem hasM_x {x qual : Str} {st : Stmt} {fd : FuncData} {N ps : List Str} {k : Nat} {sp : Sp} (F : FunD K x qual (defArgs st) (defBody st) (defScope st) [] [] (He.ma K (He.ga K "Painter") x) fd) (S : FnScope N ps (defScope st))
    (hb : ∀ (kV doc pm : Value) (an : Option Addr) (cdv ct : Value) (us : List Value), us.length = ps.length → bindArgs (PySem.W.fnOf x qual (defArgs st) (defBody st) (defScope st) .none kV doc pm an cdv ct) ⟨us, []⟩ = pure (ps.zip us))
    (len : ∀ vs H Q E, sp vs H Q E → vs.length = ps.length)
    (hbody : ∀ (cdv : Value) (A : Around) (outer : List Env) (s : Shared) (H : Hp) (vs : List V) (Q : VK) (E : XK), Room k (A.deeper (envOfC qual (defScope st) s.heap.objs.size (He.ma K (He.ga K "Painter") x) cdv)) → sp vs H Q E →
      ∃ t, PSs (cxOf (L2.CX P w) P w K mg base N qual (defScope st) (He.ma K (He.ga K "Painter") x) cdv A outer s H E) (defBody st) t ∧ t { nx := fun _ H' => Q .non H', rt := Q } (start N vs) H) : HasM P w K mg base (L2.CX P w) (k + 1) x ps sp :=
  ⟨fd, F.bindsN hb, F.ok S len hbody⟩
end
section
variable {X : Cx} {CX : CXT} {k : Nat} {m : Str} {ps : List Str} {sp : Sp} {E : XK} {p pos apos : Pos} {o e : Expr} {es : List Expr} {ta : TE} {t : TA}
theorem pe_m {pl : Sem Bool} (h : HasM X.prog X.w X.K X.mg X.base CX k m ps sp) (hr : Room k X.A) (hx : Passes CX X E) (c : Cls X.K (He.ga X.K "Painter")) (hm : Meth X.K (He.ga X.K "Painter") m (He.ma X.K (He.ga X.K "Painter") m)) (he : PE X o ta) (ha : PA X (e :: es) t)
    (hst : starEach (e :: es) X.env = (false, eval e X.env) :: starEach es X.env := by rfl) (hpl : (backTo pos (starEach es X.env)).any (·.1) = false := by rfl)
    (ht : eval (.Call (.Attribute o m apos) (e :: es) [] pos) X.env = (do
      let ov ← eval o X.env
      standAt apos.atName
      let (f, first) ← holding [ov] (getMethod ov m pl)
      callWith pos f first (backTo pos (starEach (e :: es) X.env)) (backToKw pos (keywordEach [] X.env))) := by rfl) :
    PE X (.Call (.Attribute o m apos) (e :: es) [] pos) (tMeth (He.ga X.K "Painter") m sp [] E ta t) := by
  obtain ⟨fd, b, f⟩ := h.fn
  exact pe_meth he c hm f hr b .nil hx ha hst hpl ht
theorem pe_m0 {pl : Sem Bool} (h : HasM X.prog X.w X.K X.mg X.base CX k m ps sp) (hr : Room k X.A) (hx : Passes CX X E) (c : Cls X.K (He.ga X.K "Painter")) (hm : Meth X.K (He.ga X.K "Painter") m (He.ma X.K (He.ga X.K "Painter") m)) (he : PE X o ta)
    (ht : eval (.Call (.Attribute o m apos) [] [] pos) X.env = (do
      let ov ← eval o X.env
      standAt apos.atName
      let (f, first) ← holding [ov] (getMethod ov m pl)
      callWith pos f first (backTo pos (starEach [] X.env)) (backToKw pos (keywordEach [] X.env))) := by rfl) :
    PE X (.Call (.Attribute o m apos) [] [] pos) (tMeth (He.ga X.K "Painter") m sp [] E ta tNil) := by
  obtain ⟨fd, b, f⟩ := h.fn
  exact pe_meth0 he c hm f hr b .nil hx ht
end
section
variable {P : Program} {w : World} {K : PySem.W.Frag} {mg : Str → Option Value} {base : Heap}
/-! ### __init__ -/
theorem sc_Pinit : FnScope ["self", "picture"] ["self", "picture"] (defScope s_Pinit) := ⟨rfl, rfl, rfl, by decide +kernel, rfl, by decide +kernel, by decide +kernel⟩
def spPInit (K : PySem.W.Frag) : Sp := fun vs H Q E => ∃ (p dx : Addr) (v : V) (d : PyData), vs = [.ref p, v] ∧ H p = some (.ins (He.ga K "Painter") dx []) ∧ Dp K H v d ∧ (isP d = false → ∀ H', Same H H' → E (.ref (He.ga K "NoPicture")) none H') ∧
  (∀ n t, d = pd n t → n ≤ 3 → T.ok n t → ∀ H', But1 p H H' → PaintAt K H' p n [lean t] 0 → Q .non H')
theorem h_Pinit (tx : Tx K mg) : HasM P w K mg base (L2.CX P w) 9 "__init__" ["self", "picture"] (spPInit K) := by
  obtain ⟨fd, F⟩ := tx.fn_Pinit
  refine hasM_x (st := s_Pinit) F sc_Pinit (fun _ _ _ _ _ _ us hl => match us, hl with | [_, _], _ => rfl) (fun vs H Q E h => ?_) (fun cdv A outer s H vs Q E hr h => ?_)
  · obtain ⟨p, dx, v, d, rfl, _⟩ := h
    rfl
  · obtain ⟨p, dx, v, d, rfl, hp, hd, k1, k2⟩ := h
    refine ⟨_, pss_cons (ps_fld (pv 0) (pe_lst (pa_cons (pe_h (E := E) (h_lean tx) hr (passes_call (takes_of rfl rfl rfl rfl) fun _ _ _ _ z => z) (pa_cons (pv 1) pa_nil)) pa_nil)) rfl)
      (pss_one (ps_fld (pv 0) pe_int rfl)), ?_⟩
    refine ⟨_, rfl, v, d, rfl, hd, k1, fun n t e hn ok H1 v1 s1 d1 => ?_⟩
    refine ⟨(by show 1 ≤ sizeLine; decide), fun l hl => ?_⟩
    have s2 := same_upd (o := .lst [v1]) hl
    have hp1 := s2 _ _ (s1 _ _ hp)
    refine ⟨_, rfl, p, _, dx, _, rfl, hp1, tx.cP, tx.n_shelf, (by show 0 < 1000; decide), ?_⟩
    have npl : l ≠ p := ne_of upd_same hp1 (by intro z; cases z)
    refine ⟨_, rfl, p, _, dx, _, rfl, upd_same, tx.cP, tx.n_place, (by show 1 < 1000; decide), ?_⟩
    rw [upd_upd]
    rw [pf_mk]
    refine k2 n t e hn ok _ (But1.trans (But1.of (Same.trans s1 s2)) but1_upd) ⟨hn, fun u hu => ?_, Nat.zero_lt_one, by simp, dx, l, [v1], upd_same, by rw [upd_ne npl, upd_same], ?_⟩
    · have eu : u = lean t := by simpa using hu
      rw [eu]
      exact lean_ok ok
    · exact (Pics.one (dp_same s2 d1)).mono fun _ _ z => but1_sqT hp1 but1_upd z
/-! ### shown, new_one -/
theorem sc_Pshown : FnScope ["self"] ["self"] (defScope s_Pshown) := ⟨rfl, rfl, rfl, by decide +kernel, rfl, by decide +kernel, by decide +kernel⟩
def spShown (K : PySem.W.Frag) : Sp := fun vs H Q _ => ∃ (p : Addr) (n : Nat) (ts : List T) (i : Nat), vs = [.ref p] ∧ PaintAt K H p n ts i ∧ ∀ v t, ts[i]? = some t → T.ok n t → Dp K H v (pd n t) → Q v H
theorem h_Pshown (tx : Tx K mg) : HasM P w K mg base CX0 1 "shown" ["self"] (spShown K) := by
  obtain ⟨fd, F⟩ := tx.fn_Pshown
  refine hasM_n (st := s_Pshown) F sc_Pshown (fun _ _ _ _ _ _ us hl => match us, hl with | [_], _ => rfl) (fun vs H Q E h => ?_) (fun cdv A outer s H vs Q E hr h => ?_)
  · obtain ⟨p, n, ts, i, rfl, _⟩ := h
    rfl
  · obtain ⟨p, n, ts, i, rfl, ⟨n3, ok, lt, le, dx, l, us, h1, h2, h3⟩, k⟩ := h
    refine ⟨_, pss_one (ps_ret (pe_ix ix_list (pe_fld (pv 0) rfl) (pe_fld (pv 0) rfl) (fun _ _ => rfl))), ?_⟩
    obtain ⟨v, t, ev, et, d⟩ := h3.get lt
    exact ⟨_, rfl, p, _, dx, _, _, rfl, h1, tx.cP, tx.n_shelf, pf_shelf _ _, _, rfl, p, _, dx, _, _, rfl, h1, tx.cP, tx.n_place, pf_place _ _, l, us, _, v, rfl, rfl, SqL.of h2, atI_nat ev, k v t et (ok t (List.mem_of_getElem? et)) d⟩
theorem sc_Pnew_one : FnScope ["self", "picture"] ["self", "picture"] (defScope s_Pnew_one) := ⟨rfl, rfl, rfl, by decide +kernel, rfl, by decide +kernel, by decide +kernel⟩
def spNewOne (K : PySem.W.Frag) : Sp := fun vs H Q _ => ∃ (p : Addr) (n : Nat) (ts : List T) (i : Nat) (v : V) (t : T), vs = [.ref p, v] ∧ PaintAt K H p n ts i ∧ i < 50 ∧ T.ok n t ∧ Dp K H v (pd n t) ∧ ∀ H', But1 p H H' → PaintAt K H' p n (ts.take (i + 1) ++ [t]) (i + 1) → Q .non H'
theorem h_Pnew_one (tx : Tx K mg) : HasM P w K mg base CX0 1 "new_one" ["self", "picture"] (spNewOne K) := by
  obtain ⟨fd, F⟩ := tx.fn_Pnew_one
  refine hasM_n (st := s_Pnew_one) F sc_Pnew_one (fun _ _ _ _ _ _ us hl => match us, hl with | [_, _], _ => rfl) (fun vs H Q E h => ?_) (fun cdv A outer s H vs Q E hr h => ?_)
  · obtain ⟨p, n, ts, i, v, t, rfl, _⟩ := h
    rfl
  · obtain ⟨p, n, ts, i, v, t, rfl, ⟨n3, ok, lt, le, dx, l, us, h1, h2, h3⟩, hi, okt, d, k⟩ := h
    refine ⟨_, pss_cons (ps_fld (pv 0) (pe_op op_cat (pe_slice sl_list (pe_fld (pv 0) rfl) po_none (po_some (pe_op op_add (pe_fld (pv 0) rfl) pe_int))) (pe_lst (pa_cons (pv 1) pa_nil))) rfl)
      (pss_one (ps_fld (pv 0) (pe_op op_add (pe_fld (pv 0) rfl) pe_int) rfl)), ?_⟩
    have ec : cutV us none (some ((i : Int) + 1)) = us.take (i + 1) := by
      unfold cutV
      have e1 : ((i : Int) + 1) = ((i + 1 : Nat) : Int) := by omega
      rw [e1, HT.sIx_nat, HT.sIx_none, List.drop_zero, Nat.sub_zero]
      have hl := h3.1
      rw [Nat.min_eq_left (by omega)]
    refine ⟨_, rfl, p, _, dx, _, _, rfl, h1, tx.cP, tx.n_shelf, pf_shelf _ _, _, rfl, p, _, dx, _, _, rfl, h1, tx.cP, tx.n_place, pf_place _ _, _, _, rfl, rfl, _, rfl, l, us, rfl, SqL.of h2, fun q hq => ?_⟩
    rw [ec]
    have s1 := same_upd (o := .lst (us.take (i + 1))) hq
    refine ⟨_, rfl, (by show 1 ≤ sizeLine; decide), fun q2 hq2 => ?_⟩
    have s2 := same_upd (o := .lst [v]) hq2
    have hl := h3.1
    refine ⟨q, q2, us.take (i + 1), [v], rfl, rfl, by rw [upd_ne (ne_of_none upd_same hq2), upd_same], upd_same, ?_, fun q3 hq3 => ?_⟩
    · have hs : sizeLine = 16777216 := sizeLine_eq
      rw [List.length_take]
      simp only [List.length_cons, List.length_nil]
      omega
    · have s3 := same_upd (o := .lst (us.take (i + 1) ++ [v])) hq3
      have s123 := Same.trans (Same.trans s1 s2) s3
      have h1' := s123 _ _ h1
      refine ⟨_, rfl, p, _, dx, _, rfl, h1', tx.cP, tx.n_shelf, (by show 2 < 1000; decide), ?_⟩
      rw [pf_setS]
      refine ⟨_, rfl, p, _, dx, _, _, rfl, upd_same, tx.cP, tx.n_place, pf_place _ _, _, _, rfl, rfl, _, rfl, p, _, dx, _, rfl, upd_same, tx.cP, tx.n_place, (by show 2 < 1000; decide), ?_⟩
      rw [upd_upd, pf_setP]
      have e1 : ((i : Int) + 1) = ((i + 1 : Nat) : Int) := by omega
      rw [e1]
      have nq : q3 ≠ p := ne_of upd_same h1' (by intro z; cases z)
      have lt2 : (ts.take (i + 1)).length = i + 1 := by rw [List.length_take]; omega
      refine k _ (But1.trans (But1.of s123) but1_upd) ⟨n3, fun u hu => ?_, ?_, ?_, dx, q3, _, upd_same, by rw [upd_ne nq, upd_same], ?_⟩
      · rcases List.mem_append.mp hu with z | z
        · exact ok u (List.mem_of_mem_take z)
        · have eu : u = t := by simpa using z
          rw [eu]
          exact okt
      · rw [List.length_append, lt2]
        simp only [List.length_cons, List.length_nil]
        omega
      · rw [List.length_append, lt2]
        simp only [List.length_cons, List.length_nil]
        omega
      · have h3' := h3.mono fun _ _ z => same_sqT s123 z
        exact (h3'.add (i + 1) (by omega) (dp_same s123 d)).mono fun _ _ z => but1_sqT h1' but1_upd z
end
end Ff
set_option Elab.async false
set_option linter.all false
set_option maxRecDepth 100000
set_option maxHeartbeats 2000000
namespace Ff
open PySem PySem.Spec PyProof.Rows L2
section
variable {P : Program} {w : World} {K : PySem.W.Frag} {mg : Str → Option Value} {base : Heap}
/-- fill, dot, turn: what they promise of the new picture f of the one that is shown -/
def Adds (K : PySem.W.Frag) (H : Hp) (p : Addr) (n : Nat) (ts : List T) (i : Nat) (f : T → T) (Q : VK) : Prop := ∀ t H', ts[i]? = some t → But1 p H H' → PaintAt K H' p n (ts.take (i + 1) ++ [f t]) (i + 1) → Q .non H'
theorem sc_Pfill : FnScope ["self", "box", "worth"] ["self", "box", "worth"] (defScope s_Pfill) := ⟨rfl, rfl, rfl, by decide +kernel, rfl, by decide +kernel, by decide +kernel⟩
def spPFill (K : PySem.W.Frag) : Sp := fun vs H Q E => ∃ (p : Addr) (n : Nat) (ts : List T) (i : Nat) (b : Addr) (l tp w h wo : Int), vs = [.ref p, .ref b, .int wo] ∧ PaintAt K H p n ts i ∧ i < 50 ∧ SqT K H b [.int l, .int tp, .int w, .int h] ∧
  (boxOk n l tp w h = false → ∀ H', Same H H' → E (.ref (He.ga K "BadBox")) none H') ∧
  (boxOk n l tp w h = true → worOk wo = false → ∀ H', Same H H' → E (.ref (He.ga K "NoPicture")) none H') ∧
  (boxOk n l tp w h = true → worOk wo = true → Adds K H p n ts i (fun t => fillP n t l tp w h wo) Q)
theorem h_Pfill (tx : Tx K mg) : HasM P w K mg base (L2.CX P w) 10 "fill" ["self", "box", "worth"] (spPFill K) := by
  obtain ⟨fd, F⟩ := tx.fn_Pfill
  refine hasM_x (st := s_Pfill) F sc_Pfill (fun _ _ _ _ _ _ us hl => match us, hl with | [_, _, _], _ => rfl) (fun vs H Q E h => ?_) (fun cdv A outer s H vs Q E hr h => ?_)
  · obtain ⟨p, n, ts, i, b, l, tp, w, h, wo, rfl, _⟩ := h
    rfl
  · obtain ⟨p, n, ts, i, b, l, tp, wd, ht, wo, rfl, hP, hi, hb, k1, k2, k3⟩ := h
    have hr1 : Room 1 _ := hr.mono (by decide)
    refine ⟨_, pss_one (ps_expr (pe_m (E := E0) (h_Pnew_one tx) hr1 pass0 tx.cP tx.m_new_one (pv 0) (pa_cons
      (pe_h (E := E) (h_filled tx) hr (passes_call (takes_of rfl rfl rfl rfl) fun _ _ _ _ z => z) (pa_cons (pe_m0 (E := E0) (h_Pshown tx) hr1 pass0 tx.cP tx.m_shown (pv 0)) (pa_cons (pv 1) (pa_cons (pv 2) pa_nil)))) pa_nil))), ?_⟩
    obtain ⟨dx, l0, us, h1, _, _⟩ := hP.at_
    refine ⟨_, rfl, p, dx, _, rfl, h1, pf_no _ _ (by decide +kernel) (by decide +kernel), _, rfl, p, dx, _, rfl, h1, pf_no _ _ (by decide +kernel) (by decide +kernel), p, n, ts, i, rfl, hP, fun v t et okt d => ?_⟩
    refine ⟨_, rfl, _, rfl, v, n, t, b, l, tp, wd, ht, wo, rfl, hP.n3, okt, d, hb, fun e => k1 e, fun e ew => k2 e ew, fun e ew H1 v1 s1 d1 => ?_⟩
    exact ⟨p, n, ts, i, v1, _, rfl, paint_same s1 hP, hi, fillP_ok ew okt, d1, fun H2 b2 hP2 => k3 e ew t H2 et (But1.trans (But1.of s1) b2) hP2⟩
theorem sc_Pdot : FnScope ["self", "x", "y", "worth"] ["self", "x", "y", "worth"] (defScope s_Pdot) := ⟨rfl, rfl, rfl, by decide +kernel, rfl, by decide +kernel, by decide +kernel⟩
def spPDot (K : PySem.W.Frag) : Sp := fun vs H Q E => ∃ (p : Addr) (n : Nat) (ts : List T) (i : Nat) (x y wo : Int), vs = [.ref p, .int x, .int y, .int wo] ∧ PaintAt K H p n ts i ∧ i < 50 ∧
  (spotOk n x y = false → ∀ H', Same H H' → E (.ref (He.ga K "NoSpot")) none H') ∧
  (spotOk n x y = true → worOk wo = false → ∀ H', Same H H' → E (.ref (He.ga K "NoPicture")) none H') ∧
  (spotOk n x y = true → worOk wo = true → Adds K H p n ts i (fun t => fillP n t x y 1 1 wo) Q)
theorem h_Pdot (tx : Tx K mg) : HasM P w K mg base (L2.CX P w) 11 "dot" ["self", "x", "y", "worth"] (spPDot K) := by
  obtain ⟨fd, F⟩ := tx.fn_Pdot
  refine hasM_x (st := s_Pdot) F sc_Pdot (fun _ _ _ _ _ _ us hl => match us, hl with | [_, _, _, _], _ => rfl) (fun vs H Q E h => ?_) (fun cdv A outer s H vs Q E hr h => ?_)
  · obtain ⟨p, n, ts, i, x, y, wo, rfl, _⟩ := h
    rfl
  · obtain ⟨p, n, ts, i, x, y, wo, rfl, hP, hi, k1, k2, k3⟩ := h
    have hr1 : Room 1 _ := hr.mono (by decide)
    refine ⟨_, pss_one (ps_expr (pe_m (E := E0) (h_Pnew_one tx) hr1 pass0 tx.cP tx.m_new_one (pv 0) (pa_cons
      (pe_h (E := E) (h_put tx) hr (passes_call (takes_of rfl rfl rfl rfl) fun _ _ _ _ z => z) (pa_cons (pe_m0 (E := E0) (h_Pshown tx) hr1 pass0 tx.cP tx.m_shown (pv 0)) (pa_cons (pv 1) (pa_cons (pv 2) (pa_cons (pv 3) pa_nil))))) pa_nil))), ?_⟩
    obtain ⟨dx, l0, us, h1, _, _⟩ := hP.at_
    refine ⟨_, rfl, p, dx, _, rfl, h1, pf_no _ _ (by decide +kernel) (by decide +kernel), _, rfl, p, dx, _, rfl, h1, pf_no _ _ (by decide +kernel) (by decide +kernel), p, n, ts, i, rfl, hP, fun v t et okt d => ?_⟩
    refine ⟨_, rfl, _, rfl, _, rfl, v, n, t, x, y, wo, rfl, hP.n3, okt, d, fun e => k1 e, fun e ew => k2 e ew, fun e ew H1 v1 s1 d1 => ?_⟩
    exact ⟨p, n, ts, i, v1, _, rfl, paint_same s1 hP, hi, fillP_ok ew okt, d1, fun H2 b2 hP2 => k3 e ew t H2 et (But1.trans (But1.of s1) b2) hP2⟩
theorem sc_Pturn : FnScope ["self", "way"] ["self", "way"] (defScope s_Pturn) := ⟨rfl, rfl, rfl, by decide +kernel, rfl, by decide +kernel, by decide +kernel⟩
def spPTurn (K : PySem.W.Frag) : Sp := fun vs H Q E => ∃ (p : Addr) (n : Nat) (ts : List T) (i : Nat) (way : Int), vs = [.ref p, .int way] ∧ PaintAt K H p n ts i ∧ i < 50 ∧
  (wayOk way = false → ∀ H', Same H H' → E (.ref (He.ga K "NoSpot")) none H') ∧ (wayOk way = true → Adds K H p n ts i (byWay way) Q)
theorem h_Pturn (tx : Tx K mg) : HasM P w K mg base (L2.CX P w) 11 "turn" ["self", "way"] (spPTurn K) := by
  obtain ⟨fd, F⟩ := tx.fn_Pturn
  refine hasM_x (st := s_Pturn) F sc_Pturn (fun _ _ _ _ _ _ us hl => match us, hl with | [_, _], _ => rfl) (fun vs H Q E h => ?_) (fun cdv A outer s H vs Q E hr h => ?_)
  · obtain ⟨p, n, ts, i, way, rfl, _⟩ := h
    rfl
  · obtain ⟨p, n, ts, i, way, rfl, hP, hi, k1, k2⟩ := h
    have hr1 : Room 1 _ := hr.mono (by decide)
    refine ⟨_, pss_one (ps_expr (pe_m (E := E0) (h_Pnew_one tx) hr1 pass0 tx.cP tx.m_new_one (pv 0) (pa_cons
      (pe_h (E := E) (h_by_way tx) hr (passes_call (takes_of rfl rfl rfl rfl) fun _ _ _ _ z => z) (pa_cons (pe_m0 (E := E0) (h_Pshown tx) hr1 pass0 tx.cP tx.m_shown (pv 0)) (pa_cons (pv 1) pa_nil))) pa_nil))), ?_⟩
    obtain ⟨dx, l0, us, h1, _, _⟩ := hP.at_
    refine ⟨_, rfl, p, dx, _, rfl, h1, pf_no _ _ (by decide +kernel) (by decide +kernel), _, rfl, p, dx, _, rfl, h1, pf_no _ _ (by decide +kernel) (by decide +kernel), p, n, ts, i, rfl, hP, fun v t et okt d => ?_⟩
    refine ⟨_, rfl, v, n, t, way, rfl, hP.n3, okt, d, fun e => k1 e, fun e H1 v1 s1 d1 => ?_⟩
    exact ⟨p, n, ts, i, v1, _, rfl, paint_same s1 hP, hi, byWay_ok way okt, d1, fun H2 b2 hP2 => k2 e t H2 et (But1.trans (But1.of s1) b2) hP2⟩
/-! ### undo, redo, many -/
theorem sc_Pundo : FnScope ["self"] ["self"] (defScope s_Pundo) := ⟨rfl, rfl, rfl, by decide +kernel, rfl, by decide +kernel, by decide +kernel⟩
def spUndo (K : PySem.W.Frag) : Sp := fun vs H Q E => ∃ (p : Addr) (n : Nat) (ts : List T) (i : Nat), vs = [.ref p] ∧ PaintAt K H p n ts i ∧
  (i = 0 → E (.ref (He.ga K "NothingDone")) none H) ∧ (∀ j, i = j + 1 → ∀ H', But1 p H H' → PaintAt K H' p n ts j → Q .non H')
theorem h_Pundo (tx : Tx K mg) : HasM P w K mg base (L2.CX P w) 1 "undo" ["self"] (spUndo K) := by
  obtain ⟨fd, F⟩ := tx.fn_Pundo
  obtain ⟨xP, kP, bP, tP⟩ := tx.x_NothingDone
  refine hasM_x (st := s_Pundo) F sc_Pundo (fun _ _ _ _ _ _ us hl => match us, hl with | [_], _ => rfl) (fun vs H Q E h => ?_) (fun cdv A outer s H vs Q E hr h => ?_)
  · obtain ⟨p, n, ts, i, rfl, _⟩ := h
    rfl
  · obtain ⟨p, n, ts, i, rfl, hP, k1, k2⟩ := h
    obtain ⟨n3, ok, lt, le, dx, l, us, h1, h2, h3⟩ := hP
    refine ⟨_, pss_cons (ps_if (pt_cmpR op_eq (pe_fld (pv 0) rfl) pe_int (nomark _)) (pss_one (ps_raise rfl (takes_of rfl rfl rfl rfl) (pmk_own PySem.F.excBase_ValueError xP tx.g_NothingDone kP (raises_own bP tP) rfl))) pss_nil)
      (pss_one (ps_fld (pv 0) (pe_op op_sub (pe_fld (pv 0) rfl) pe_int) rfl)), ?_⟩
    refine ⟨_, rfl, p, _, dx, _, _, rfl, h1, tx.cP, tx.n_place, pf_place _ _, rfl, _, rfl, ?_⟩
    cases i with
    | zero => exact iteT (k1 rfl)
    | succ j =>
      have e0 : decide (V.int ((j + 1 : Nat) : Int) = V.int 0) = false := decide_eq_false (by
        intro z
        injection z with z
        omega)
      rw [e0]
      refine iteF ⟨_, rfl, p, _, dx, _, _, rfl, h1, tx.cP, tx.n_place, pf_place _ _, _, _, rfl, rfl, _, rfl, p, _, dx, _, rfl, h1, tx.cP, tx.n_place, (by show 2 < 1000; decide), ?_⟩
      rw [pf_setP]
      have e1 : ((j + 1 : Nat) : Int) - 1 = (j : Int) := by omega
      rw [e1]
      exact k2 j rfl _ but1_upd (paint_move n3 ok le h1 h2 h3 (by omega))
theorem sc_Predo : FnScope ["self"] ["self"] (defScope s_Predo) := ⟨rfl, rfl, rfl, by decide +kernel, rfl, by decide +kernel, by decide +kernel⟩
def spRedo (K : PySem.W.Frag) : Sp := fun vs H Q E => ∃ (p : Addr) (n : Nat) (ts : List T) (i : Nat), vs = [.ref p] ∧ PaintAt K H p n ts i ∧
  (i + 1 = ts.length → E (.ref (He.ga K "NothingDone")) none H) ∧ (i + 1 < ts.length → ∀ H', But1 p H H' → PaintAt K H' p n ts (i + 1) → Q .non H')
theorem h_Predo (tx : Tx K mg) : HasM P w K mg base (L2.CX P w) 1 "redo" ["self"] (spRedo K) := by
  obtain ⟨fd, F⟩ := tx.fn_Predo
  obtain ⟨xP, kP, bP, tP⟩ := tx.x_NothingDone
  refine hasM_x (st := s_Predo) F sc_Predo (fun _ _ _ _ _ _ us hl => match us, hl with | [_], _ => rfl) (fun vs H Q E h => ?_) (fun cdv A outer s H vs Q E hr h => ?_)
  · obtain ⟨p, n, ts, i, rfl, _⟩ := h
    rfl
  · obtain ⟨p, n, ts, i, rfl, hP, k1, k2⟩ := h
    obtain ⟨n3, ok, lt, le, dx, l, us, h1, h2, h3⟩ := hP
    have hl := h3.1
    refine ⟨_, pss_cons (ps_if (pt_cmpR op_eq (pe_fld (pv 0) rfl) (pe_op op_sub (pe_callB call_len_seq (by rfl) tx.z_len b_len (pa_cons (pe_fld (pv 0) rfl) pa_nil)) pe_int) (nomark _)) (pss_one (ps_raise rfl (takes_of rfl rfl rfl rfl) (pmk_own PySem.F.excBase_ValueError xP tx.g_NothingDone kP (raises_own bP tP) rfl))) pss_nil)
      (pss_one (ps_fld (pv 0) (pe_op op_add (pe_fld (pv 0) rfl) pe_int) rfl)), ?_⟩
    refine ⟨_, rfl, p, _, dx, _, _, rfl, h1, tx.cP, tx.n_place, pf_place _ _, _, rfl, p, _, dx, _, _, rfl, h1, tx.cP, tx.n_shelf, pf_shelf _ _, l, us, rfl, .inl (SqL.of h2), _, _, rfl, rfl, rfl, _, rfl, ?_⟩
    by_cases c : i + 1 = ts.length
    · have e0 : decide (V.int (i : Int) = V.int ((us.length : Int) - 1)) = true := decide_eq_true (by
        rw [hl]
        congr 1
        omega)
      rw [e0]
      exact iteT (k1 c)
    · have e0 : decide (V.int (i : Int) = V.int ((us.length : Int) - 1)) = false := decide_eq_false (by
        intro z
        injection z with z
        omega)
      rw [e0]
      refine iteF ⟨_, rfl, p, _, dx, _, _, rfl, h1, tx.cP, tx.n_place, pf_place _ _, _, _, rfl, rfl, _, rfl, p, _, dx, _, rfl, h1, tx.cP, tx.n_place, (by show 2 < 1000; decide), ?_⟩
      rw [pf_setP]
      have e1 : (i : Int) + 1 = ((i + 1 : Nat) : Int) := by omega
      rw [e1]
      exact k2 (by omega) _ but1_upd (paint_move n3 ok le h1 h2 h3 (by omega))
theorem sc_Pmany : FnScope ["self"] ["self"] (defScope s_Pmany) := ⟨rfl, rfl, rfl, by decide +kernel, rfl, by decide +kernel, by decide +kernel⟩
def spMany (K : PySem.W.Frag) : Sp := fun vs H Q _ => ∃ (p : Addr) (n : Nat) (ts : List T) (i : Nat), vs = [.ref p] ∧ PaintAt K H p n ts i ∧ ∀ r, H r = none → Q (.ref r) (upd H r (.tup [.int i, .int ((ts.length : Int) - 1 - i)]))
theorem h_Pmany (tx : Tx K mg) : HasM P w K mg base CX0 1 "many" ["self"] (spMany K) := by
  obtain ⟨fd, F⟩ := tx.fn_Pmany
  refine hasM_n (st := s_Pmany) F sc_Pmany (fun _ _ _ _ _ _ us hl => match us, hl with | [_], _ => rfl) (fun vs H Q E h => ?_) (fun cdv A outer s H vs Q E hr h => ?_)
  · obtain ⟨p, n, ts, i, rfl, _⟩ := h
    rfl
  · obtain ⟨p, n, ts, i, rfl, hP, k⟩ := h
    obtain ⟨n3, ok, lt, le, dx, l, us, h1, h2, h3⟩ := hP
    refine ⟨_, pss_one (ps_ret (pe_tup (pa_cons (pe_fld (pv 0) rfl) (pa_cons (pe_op op_sub (pe_op op_sub (pe_callB call_len_seq (by rfl) tx.z_len b_len (pa_cons (pe_fld (pv 0) rfl) pa_nil)) pe_int) (pe_fld (pv 0) rfl)) pa_nil)))), ?_⟩
    refine ⟨_, rfl, p, _, dx, _, _, rfl, h1, tx.cP, tx.n_place, pf_place _ _, _, rfl, p, _, dx, _, _, rfl, h1, tx.cP, tx.n_shelf, pf_shelf _ _, l, us, rfl, .inl (SqL.of h2), _, _, rfl, rfl, _, rfl, p, _, dx, _, _, rfl, h1, tx.cP, tx.n_place, pf_place _ _, _, _, rfl, rfl, (by show 2 ≤ sizeLine; decide), fun r hr2 => ?_⟩
    have z := k r hr2
    rw [← h3.1] at z
    exact z
end
end Ff
set_option Elab.async false
set_option linter.all false
set_option maxRecDepth 100000
set_option maxHeartbeats 4000000
namespace PySem
open Sem (wp)
open AutoSeq1 (wpAny_loadPart' idx_int)
/-- xs.extend(t), t any tuple -/
theorem fm_extT (l : Addr) (items : Array Value) (n : Nat) (b : Addr) (its2 : Array Value) (n2 : Nat) (dd : Option Addr) (sl : Array (Option Value)) (h0 : ¬(!items.isEmpty && Builtin.List.listTooLong (items.size + its2.size)) = true) (h1 : items.size ≤ sizeLine) (h2 : items.size + its2.size ≤ sizeLine + 1) :
    Meets (Builtin.«list.extend» ⟨[.ref l, .ref b], []⟩) (fun _ R s => s.heap.get? l = some { cls := .type "list", dict := none, data := .seq items n, slots := #[] } ∧ s.heap.get? b = some { cls := .type "tuple", dict := dd, data := .seq its2 n2, slots := sl } ∧
      R (.ok (.ret Value.none)) { s with heap := s.heap.update l (Obj.mapSeq fun x => x ++ its2), toks := s.toks }) :=
  .of_wp fun prog w A R s hh => by
    obtain ⟨hp, g, d, tk, os⟩ := s
    obtain ⟨hl, hb, hh⟩ := hh
    have f1 := idx_int
    have f2 := AutoSeq1.sub_tuple_tuple
    have f3 := AutoSeq1.sub_list_list
    have f4 := AutoSeq1.sub_tuple_list
    have f5 := AutoSeq1.sub_list_tuple
    have hz : (items ++ its2).size ≤ sizeLine + 1 := by
      rw [Array.size_append]
      exact h2
    wp_walk using (wpAny_updateSeq hl rfl (hz := h1) (_hz' := hz)), wpAny_loadPart' hl, wpAny_loadPart' hb
    exact ⟨_, rfl, hh⟩
end PySem
namespace Ff
open PySem PySem.Spec PyProof.Rows L2
def rExtendT (K : PySem.W.Frag) : V → List V → Hp → VK → Prop := fun x vs H Q => ∃ l b xs zs, x = .ref l ∧ vs = [.ref b] ∧ H l = some (.lst xs) ∧ SqT K H b zs ∧ xs.length + zs.length ≤ sizeLine ∧ Q .non (upd H l (.lst (xs ++ zs)))
theorem mt_extendT {X : Cx} : MtM X "list.extend" (rExtendT X.K) := by
  intro pins s σ H x vs v us Q I rx rv h
  obtain ⟨l, b, xs, zs, rfl, rfl, hH, hB, hz, q⟩ := h
  cases rx
  obtain ⟨u, rfl, ru⟩ := rv.one
  cases ru
  obtain ⟨z, its, n, r, hl, e⟩ := I.lstM hH
  obtain ⟨its2, r2, ⟨⟨cls, dd, data, sl⟩, ho, hc, n2, hd⟩, hl2⟩ := I.tuple hB
  simp only at hc hd
  subst hc hd
  have e2 := r2.length
  have hsz : its.toArray.size + its2.toArray.size ≤ sizeLine := by
    rw [List.size_toArray, List.size_toArray]
    omega
  have hlong : ¬ (!its.toArray.isEmpty && Builtin.List.listTooLong (its.toArray.size + its2.toArray.size)) = true := by
    rw [notLongL hsz, Bool.and_false]
    exact Bool.false_ne_true
  refine call_meets PySem.F.slot_list_extend ⟨_, e, rfl⟩ PySem.F.entry_list_extend (PySem.F.args_list_extend_2 _ _)
    (fm_extT l its.toArray n b its2.toArray n2 dd sl hlong (by rw [List.size_toArray]; omega) (by omega)) ⟨e, ho, ?_⟩
  refine ⟨.non, _, I.lset (its' := its ++ its2) hH e (by simp) (r.append r2) ?_, rfl, q⟩
  rw [List.length_append]
  omega
/-- either of two that are walked -/
theorem pi_or {X : Cx} {tg e : Expr} {w1 w2 : TI} (h1 : PI X tg e w1) (h2 : PI X tg e w2) : PI X tg e (fun σ H R => w1 σ H R ∨ w2 σ H R) :=
  ⟨fun pins s σ H R I h => h.elim (h1.run pins s σ H R I) (h2.run pins s σ H R I)⟩
/-! ### a try's body: a method that may raise, a class made -/
section
variable {X : Cx} {CX : CXT} {k : Nat} {f C : Addr} {fd : FuncData} {ps : List Str} {sp : Sp} {E : L2.St → XK} {x m : Str} {p pos apos : Pos} {e o : Expr} {es : List Expr} {ta : TE} {t : TA}
def tMethE (C : Addr) (m : Str) (sp : Sp) (E : L2.St → XK) (ta : TE) (t : TA) : TE := fun σ H Q => ta σ H fun x H1 => ∃ a dx fs, x = .ref a ∧ H1 a = some (.ins C dx fs) ∧ fs.lookup m = none ∧ t σ H1 fun vs H2 => sp (x :: vs) H2 Q (E σ)
theorem pe_mE {pl : Sem Bool} (h : HasM X.prog X.w X.K X.mg X.base CX k m ps sp) (hr : Room k X.A) (hx : ∀ σ, PassesAt CX X σ (E σ)) (c : Cls X.K (He.ga X.K "Painter")) (hm : Meth X.K (He.ga X.K "Painter") m (He.ma X.K (He.ga X.K "Painter") m)) (he : PE X o ta) (ha : PA X (e :: es) t)
    (hst : starEach (e :: es) X.env = (false, eval e X.env) :: starEach es X.env := by rfl) (hpl : (backTo pos (starEach es X.env)).any (·.1) = false := by rfl)
    (ht : eval (.Call (.Attribute o m apos) (e :: es) [] pos) X.env = (do
      let ov ← eval o X.env
      standAt apos.atName
      let (f, first) ← holding [ov] (getMethod ov m pl)
      callWith pos f first (backTo pos (starEach (e :: es) X.env)) (backToKw pos (keywordEach [] X.env))) := by rfl) :
    PE X (.Call (.Attribute o m apos) (e :: es) [] pos) (tMethE (He.ga X.K "Painter") m sp E ta t) := by
  obtain ⟨fd, b, f⟩ := h.fn
  refine ⟨fun pins s σ H Q I h => ?_⟩
  refine PySem.W.methodCall_KW (pl := pl) (thn (he.run pins s σ H _ I h) fun u s1 ⟨x, H1, I1, rx, a, dx, fs, ex, ea, l, q⟩ => ?_) ht
  subst ex
  obtain rfl : u = Value.ref a := rx
  refine getmeth_ok I1 ea c hm l ?_
  refine PySem.W.callWith_K (first := [.ref a]) (h₀ := X.base) I.ok.mod.kin hm.kp (thn (ha.run pos pins s1 σ H1 _ I1 q) fun us s2 ⟨vs, H2, I2, r, q2⟩ => ⟨I2.kIn, ?_⟩) hst hpl
  exact run_fnS (us := .ref a :: us) (vs := .ref a :: vs) f hr b (hx σ) I2 (.cons rfl r) q2
theorem pe_mE0 {pl : Sem Bool} (h : HasM X.prog X.w X.K X.mg X.base CX k m ps sp) (hr : Room k X.A) (hx : ∀ σ, PassesAt CX X σ (E σ)) (c : Cls X.K (He.ga X.K "Painter")) (hm : Meth X.K (He.ga X.K "Painter") m (He.ma X.K (He.ga X.K "Painter") m)) (he : PE X o ta)
    (ht : eval (.Call (.Attribute o m apos) [] [] pos) X.env = (do
      let ov ← eval o X.env
      standAt apos.atName
      let (f, first) ← holding [ov] (getMethod ov m pl)
      callWith pos f first (backTo pos (starEach [] X.env)) (backToKw pos (keywordEach [] X.env))) := by rfl) :
    PE X (.Call (.Attribute o m apos) [] [] pos) (tMethE (He.ga X.K "Painter") m sp E ta tNil) := by
  obtain ⟨fd, b, f⟩ := h.fn
  refine ⟨fun pins s σ H Q I h => ?_⟩
  refine PySem.W.methodCall_KW (pl := pl) (thn (he.run pins s σ H _ I h) fun u s1 ⟨x, H1, I1, rx, a, dx, fs, ex, ea, l, q⟩ => ?_) ht
  subst ex
  obtain rfl : u = Value.ref a := rx
  refine getmeth_ok I1 ea c hm l ?_
  exact PySem.W.callWith_K0 (first := [.ref a]) I1.kIn hm.kp (run_fnS (us := [.ref a]) (vs := [.ref a]) f hr b (hx σ) I1 (.cons rfl .nil) q)
/-- C(e, ..) of the painters' class, its __init__ may raise -/
def tMakeE (C : Addr) (sp : Sp) (E : L2.St → XK) (t : TA) : TE := fun σ H Q => t σ H fun vs H1 => ∀ x dx, H1 x = none → H1 dx = none → dx ≠ x →
  sp (.ref x :: vs) (upd (upd H1 dx (.own x)) x (.ins C dx [])) (fun v H2 => v = .non ∧ Q (.ref x) H2) (E σ)
theorem pe_makeE (M : Mk X.K (He.ga X.K "Painter") (He.ma X.K (He.ga X.K "Painter") "__init__")) (h : HasM X.prog X.w X.K X.mg X.base CX k "__init__" ps sp) (hr : Room (k + 1) X.A) (hgl : X.mg "Painter" = some (.ref (He.ga X.K "Painter")))
    (hx : ∀ σ, PassesAt CX X σ (E σ)) (ha : PA X (e :: es) t) (hg : Gl X "Painter" := by rfl)
    (he : starEach (e :: es) X.env = (false, eval e X.env) :: starEach es X.env := by rfl) (hpl : (backTo pos (starEach es X.env)).any (·.1) = false := by rfl) :
    PE X (.Call (.Name "Painter" p) (e :: es) [] pos) (tMakeE (He.ga X.K "Painter") sp E t) := by
  obtain ⟨fd, b, F⟩ := h.fn
  refine ⟨fun pins s σ H Q I h => ?_⟩
  refine wpAny_Call_Name_kw (ld_glob I hg hgl ?_ (by decide))
  refine PySem.W.callWith_K (h₀ := X.base) I.ok.mod.kin M.kp (thn (ha.run pos pins s σ H _ I h) fun us s1 ⟨vs, H1, I1, r, q⟩ => ⟨I1.kIn, ?_⟩) he hpl
  have hq := q (s1.heap.objs.size + 1) s1.heap.objs.size (I1.hok.fresh (Nat.le_succ _)) (I1.hok.fresh (Nat.le_refl _)) (Nat.ne_of_lt (Nat.lt_succ_self _))
  have I2 := Inv.made (C := He.ga X.K "Painter") I1
  have r2 : Vals (V.ref (s1.heap.objs.size + 1) :: vs) (Value.ref (s1.heap.objs.size + 1) :: us) := .cons rfl r
  have hl : (Value.ref (s1.heap.objs.size + 1) :: us).length = ps.length := by
    have z := r2.length
    rw [F.len _ _ _ _ hq] at z
    exact z.symm
  have b2 := b _ (Value.ref (s1.heap.objs.size + 1) :: us) I2.kIn (by rw [List.append_nil]; exact hl)
  rw [List.append_nil] at b2
  refine wpAny_call (make_map (f := He.ma X.K (He.ga X.K "Painter") "__init__") I1.kIn M.makes M.init (beq_iff_eq.mp M.fn) (codeAny_mono (F.run _ X.stack _ _ ⟨Value.ref (s1.heap.objs.size + 1) :: us, []⟩ (Value.ref (s1.heap.objs.size + 1) :: us) _ _ (E σ) (hr.make (He.ga X.K "Painter") us [])
    (I2.env0.make (He.ga X.K "Painter") us []) b2 r2 hq) fun r s' hq' => ?_))
  cases r with
  | error e => exact hx σ pins _ _ e s' I2 hq'
  | ok fl =>
    cases fl with
    | ret u =>
      obtain ⟨v, H', I3, rv, ev, q3⟩ := I2.after hq'
      subst ev
      exact ⟨rv, ⟨V.ref (s1.heap.objs.size + 1), H', I3, rfl, q3⟩⟩
    | next => exact False.elim hq'
    | brk => exact False.elim hq'
    | cont => exact False.elim hq'
end
end Ff
set_option Elab.async false
set_option linter.all false
set_option maxRecDepth 100000
set_option maxHeartbeats 4000000
namespace Ff
open PySem PySem.Spec PyProof.Rows L2
/-! ### a caught exception that is kept -/
/-- the exception at a, of the class cls, without a dict -/
def exO (a : Addr) (cls : Value) : HO := .ext fun h => ∃ oe, h.get? a = some oe ∧ oe.cls = cls ∧ oe.dict = none ∧ ∃ vs, oe.data = .fields vs
theorem exO_ok {P : Program} {w : World} {H : Hp} {h : Heap} {a : Addr} {cls : Value} {oe : Obj} {vs : Array Value} (e : h.get? a = some oe) (h1 : oe.cls = cls) (h2 : oe.dict = none) (h3 : oe.data = .fields vs) : ObjOk P w H h a (exO a cls) :=
  ⟨⟨oe, e, h1, h2, vs, h3⟩, ⟨oe, e⟩, fun _ _ ⟨o, e1, z⟩ k => ⟨o, k o e1, z⟩⟩
/-- isinstance of it -/
def rIsX (K : PySem.W.Frag) : List V → Hp → VK → Prop := fun xs H Q => ∃ (a D : Addr) (c : V) (cv : Value) (b : Bool), xs = [.ref a, c] ∧ ClsV c cv ∧ H a = some (exO a (.ref D)) ∧ ExcC K D ∧ PySem.W.kitOne K (.ref D) cv = some b ∧ Q (.bl b) H
theorem call_isX {X : Cx} : CallR X (.builtin "isinstance") (rIsX X.K) := by
  intro pins s σ H xs us Q I r h
  obtain ⟨a, D, c, cv, b, rfl, kc, hx, C, e, q⟩ := h
  obtain ⟨u1, u2, rfl, r1, r2⟩ := vals2 r
  have e2 := kc.eq r2
  subst e2
  cases (show u1 = Value.ref a from r1)
  obtain ⟨⟨oe, hget, h1, h2, vs, hv⟩, _⟩ := I.hok a _ hx
  have J : PySem.W.InstAt s.heap a oe D none := by
    obtain ⟨oc, od, oda, osl⟩ := oe
    dsimp only at h1 h2 hv
    subst h1 h2 hv
    exact ⟨hget, rfl, rfl, trivial⟩
  exact PySem.W.kia_one (PySem.W.handS_kitx_exc C.hg C.hk C.hs C.hd C.ha C.hn C.ht C.hm) I.kIn J e (fun z => nomatch z) fun tk => ⟨.bl b, H, I.tok tk, rfl, q⟩
/-- an object that stands already is tracked from now on -/
theorem inv_track {X : Cx} {pins : List (Addr × Obj)} {σ : L2.St} {H : Hp} {s : Shared} {a : Addr} {oe : Obj} {o : HO} (I : Inv X pins σ H s) (ha : s.heap.get? a = some oe) (hn : H a = none) (hL : a ≠ X.env.locals)
    (hC : ∀ x c, X.env.cells.lookup x = some c → c ≠ a) (hp : ∀ p ∈ X.pn ++ pins, p.1 ≠ a) (h0 : X.s_0.heap.get? a = none) (new : ObjOk X.prog X.w (upd H a o) s.heap a o) : Inv X pins σ (upd H a o) s := by
  have ne : ∀ {b u}, H b = some u → b ≠ a := fun e => ne_of_none e hn
  refine ⟨I.ok, I.os, I.bare, ⟨I.base.keep, I.base.slot, fun b u e n hx => ?_, I.base.there, fun b xs e => ?_, fun b u xs e => ?_, fun b ps e => ?_⟩, I.loc, I.cell, ?_, fun x c e => ?_, fun p hq => ?_, fun b u e => ?_, I.len⟩
  · have hb : b ≠ a := fun z => by
      rw [z, h0] at e
      cases e
    rw [upd_ne hb]
    exact I.base.free b u e n hx
  · have z := I.base.tups b xs e
    rw [upd_ne (ne z)]
    exact z
  · have z := I.base.frzs b u xs e
    rw [upd_ne (ne z)]
    exact z
  · obtain ⟨more, z⟩ := I.base.tbls b ps e
    exact ⟨more, by rw [upd_ne (ne z)]; exact z⟩
  · rw [upd_ne (Ne.symm hL)]
    exact I.free
  · rw [upd_ne (hC x c e)]
    exact I.freeC x c e
  · obtain ⟨e1, e2, e3⟩ := I.pin p hq
    exact ⟨e1, by rw [upd_ne (hp p hq)]; exact e2, e3⟩
  · by_cases hb : b = a
    · subst hb
      rw [upd_same] at e
      cases e
      exact new
    · rw [upd_ne hb] at e
      exact (I.hok b u e).stay (fun c v _ z => z) (fun c z => by rw [upd_ne (ne z)]; exact z) fun c xs z => by rw [upd_ne (ne z)]; exact z
/-- what 'except x as n' wishes, the exception kept behind the suite -/
def wAsT (K : PySem.W.Frag) (c : Value) (i : Nat) (ts : Addr → Value → Option Addr → TS) (Wout : WX) (D : Ends) : WX := fun cls d σ H =>
  ∃ b, PySem.W.exmOne K cls c = some b ∧ (b = true → ∀ a, H a = none → ts a cls d { nx := fun σ' H' => d = none ∧ D.nx (σ'.set i none) (upd H' a (exO a cls)), rt := fun _ _ => False } (σ.set i (some (.ref a))) H) ∧ (b = false → Wout cls d σ H)
section
variable {X : Cx} {x n : Str} {c : Value} {i : Nat} {body suite : List Stmt} {b₀ : Stmt} {np pos pos' : Pos} {tb : WX → TS} {ts : Addr → Value → Option Addr → TS} {Wout : WX}
theorem ps_try_asT (hs : X.stack = X.env :: X.outer) (hf : X.env.frame = some X.env.locals) (hex : X.ex = []) (hN : X.N.Nodup) (hi : X.N[i]? = some n) (hln : X.env.kindOf n = some .local) (hc : Names X x c) (tk : Takes X Wout)
    (hb : ∀ (W : WX) (pn : List (Addr × Obj)) (xe : Value → Shared → Prop), Takes (X.tr pn xe) W → PassesOwn (model X.prog X.w) X.A X.env xe → PSs (X.tr pn xe) body (tb W))
    (hsu : ∀ (a : Addr) (oe : Obj) (cls : Value) (d : Option Addr) (pn : List (Addr × Obj)), Zc cls d oe → (∃ vs, oe.data = .fields vs) → PSs (X.suite a ((a, oe) :: pn)) (b₀ :: suite) (ts a cls d)) :
    PS X (.Try body [.ExceptHandler (some (.Name x np)) (some n) (b₀ :: suite) pos'] [] [] pos) (fun D σ H => tb (wAsT X.K c i ts Wout D) D σ H) := by
  refine ⟨fun pins s σ H D I h => ?_⟩
  have ok := I.ok
  have hfr : X.A.frames = some (X.env :: X.outer) := by rw [ok.frames, hs]
  have hloc : Loc X.env.scope n := .inl hln
  refine wpAny_Try_except ?_
  refine wpAny_mono ((hb (wAsT X.K c i ts Wout D) (X.pn ++ pins) (fun e s₁ => wpAny (model X.prog X.w) X.A (noteFrame e X.env) (fun _ s₂ => wpAny (model X.prog X.w) X.A (setFlight e none) (fun _ s₃ =>
    wpAny (model X.prog X.w) X.A (handleBy e X.env [.ExceptHandler (some (.Name x np)) (some n) (b₀ :: suite) pos']) (SP X pins D) X.xe s₃) X.xe s₂) X.xe s₁) (fun u s' xx => ?_) PassesOwn.looking).run [] s σ H D (I.toTry _) h) (fun f s1 hsp => ?_) (fun e s1 he => he)
  · obtain ⟨a, B, sI, pins', σ', H', cls, d, rfl, J', nb, up, sky, na, os, ag, b, hb1, hyes, hno⟩ := xx
    have J : Inv X pins σ' H' sI := J'.ofTry ok
    have sky' : Sky B (X.env :: X.outer) a (Zc cls d) X.env.locals s'.heap := by rw [← hs]; exact sky
    show wpAny (model X.prog X.w) X.A (noteFrame (.ref a) X.env) _ _ _
    refine Sky.land Zc.steady hfr hf sky' fun h3 fl3 up3 => ?_
    have J3 : Inv X pins σ' H' { s' with heap := h3 } := J.landed nb fl3.1 (up.trans up3) os ag
    obtain ⟨oe3, vs3, he3, hz3, hd3⟩ := fl3.there
    have nfr : a ∉ frs (X.env :: X.outer) := fun hm => by
      obtain ⟨_, o', e', hnf⟩ := fl3.2.2.1.mem hm
      rw [he3] at e'
      cases e'
      exact hnf _ hd3
    have nL : a ≠ X.env.locals := fun z => nfr (List.mem_filterMap.mpr ⟨X.env, List.mem_cons_self, by rw [hf, z]⟩)
    have nF : a ∉ X.fs := fun hm => by
      obtain ⟨e, he, q⟩ := List.mem_filterMap.mp hm
      exact nfr (List.mem_filterMap.mpr ⟨e, List.mem_cons_of_mem _ he, q⟩)
    have nI : sI.heap.get? a = none := by
      cases e : sI.heap.get? a with
      | none => rfl
      | some o =>
        have z := nb a o e (by rw [hs]; exact nfr)
        rw [fl3.2.1] at z
        cases z
    have n0 : X.s_0.heap.get? a = none := by
      cases e : X.s_0.heap.get? a with
      | none => rfl
      | some o =>
        obtain ⟨o', z⟩ := J.base.there a o e (by rw [hex]; simp)
        rw [nI] at z
        cases z
    have npn : ∀ p ∈ X.pn ++ pins, p.1 ≠ a := fun p hp z => by
      obtain ⟨e1, _⟩ := J.pin p hp
      rw [z, nI] at e1
      cases e1
    have S3 := J3.suite he3 hd3 na nL nF
    refine wpAny_handleBy_cons (codeAny_handlers_test ?_) (by intro q; cases q)
    have LT : PySem.W.Looks (model X.prog X.w) h3 (typeOf (.ref a)) cls := fun A Q E s k q => wpAny_typeOf_ref (k _ _ he3) (by rw [hz3.1]; exact q)
    have LM := PySem.W.exm_one (M := model X.prog X.w) (J3.kIn) LT hb1
    have test : ∀ {Q : Value → Shared → Prop} {E : Value → Shared → Prop}, Q c { s' with heap := h3 } → wpAny (model X.prog X.w) (X.A.mark (some (.ref a))) (eval (.Name x np) X.env) Q E { s' with heap := h3 } := fun {Q E} q => by
      obtain ⟨hg, hdbg, hm | ⟨hm, hv, hnn⟩⟩ := hc
      · exact ld_glob (X := X.suite a ((a, oe3) :: (X.pn ++ pins))) S3 hg hm q hdbg
      · exact ld_blt (X := X.suite a ((a, oe3) :: (X.pn ++ pins))) S3 hg hm hv q hnn hdbg
    refine test (LM.here ?_)
    cases b with
    | true =>
      refine codeAny_handlers_suite_as ?_
      refine HandSPX.lands_againZ fl3 fun h4 fl4 up4 => ?_
      have J4 : Inv X pins σ' H' { s' with heap := h4 } := J.landed nb fl4.1 ((up.trans up3).trans up4) os ag
      obtain ⟨oe4, vs4, he4, hz4, hd4⟩ := fl4.there
      have S4 := J4.suite he4 hd4 na nL nF
      refine store_ok (X := X.suite a ((a, oe4) :: (X.pn ++ pins))) (v := .ref a) S4 hN hi hloc rfl (fun s5 S5 => ?_) (.inr hln)
      refine wpAny_mono ((hsu a oe4 cls d (X.pn ++ pins) hz4 ⟨_, hd4⟩).run [] s5 _ H' _ S5 (hyes rfl a na)) (fun f s6 hsp => ?_) (fun _ _ z => False.elim z)
      cases f with
      | next =>
        obtain ⟨σ6, H6, S6, hdn, q6⟩ := hsp
        have P6 : Inv X ((a, oe4) :: pins) σ6 H6 s6 := (S6.unsuite ok).pins_of fun p hp => by
          rcases List.mem_cons.mp hp with z | z
          · exact S6.pin p (by
              rw [List.append_nil, z]
              exact List.mem_cons_self)
          · exact S6.pin p (by
              rw [List.append_nil]
              exact List.mem_cons_of_mem _ (List.mem_append_right _ z))
        refine gone_ok P6 hN hi hln fun s7 J7 => ?_
        obtain ⟨g1, g2, g3, g4, g5⟩ := J7.pin (a, oe4) (List.mem_append_right _ List.mem_cons_self)
        have J8 : Inv X pins (σ6.set i none) H6 s7 := J7.pins_of fun p hp => J7.pin p (List.mem_append_right _ (List.mem_cons_of_mem _ hp))
        have cne : ∀ y cc, X.env.cells.lookup y = some cc → cc ≠ a := fun y cc e z => by
          obtain ⟨v, ⟨oc, hoc, hdc⟩⟩ := J8.cell y cc e
          rw [z, g1] at hoc
          cases hoc
          exact g5 _ hdc
        exact ⟨_, _, inv_track J8 g1 g2 nL cne npn n0 (exO_ok g1 hz4.1 (by rw [hz4.2]; exact hdn) hd4), q6⟩
      | brk =>
        obtain ⟨σ6, H6, S6, q6⟩ := hsp
        exact q6.elim
      | cont =>
        obtain ⟨σ6, H6, S6, q6⟩ := hsp
        exact q6.elim
      | ret u =>
        obtain ⟨v6, σ6, H6, S6, r6, q6⟩ := hsp
        exact q6.elim
    | false =>
      show wpAny _ X.A (handleBy (.ref a) X.env []) _ _ _
      refine wpAny_handleBy_nil ?_
      obtain ⟨k1, k2, k3, oe, vs, T, oT, ts', he, hz, hd, h1, hr⟩ := id fl3
      unfold PySem.passOn
      refine wpAny_bind (wpAny_field he hd h1 ?_)
      rw [if_neg (show ¬ ((Value.ref T == Value.none) = true) from by simp)]
      have fin : wpAny (model X.prog X.w) X.A (setFlight (.ref a) X.env.frame) (fun _ s4 => wpAny (model X.prog X.w) X.A (throw (.ref a) : Sem Flow) (SP X pins D) X.xe s4) X.xe { s' with heap := h3 } := by
        rw [hf]
        refine HandSPX.setFlight_upZ fl3 fun h4 hh4 up4 => wpAny_throw (tk _ _ ?_)
        exact ⟨a, B, sI, pins, σ', H', cls, d, rfl, J, nb, (up.trans up3).trans up4, .inr (.inr (by rw [hs]; exact hh4)), na, os, ag, hno rfl⟩
      first
        | exact wpAny_bind (wpAny_pure (wpAny_bind fin))
        | exact wpAny_bind fin
  · cases f with
    | next =>
      obtain ⟨σ', H', J', q⟩ := hsp
      exact wpAny_execs_nil ⟨σ', H', J'.ofTry ok, q⟩
    | brk =>
      obtain ⟨σ', H', J', q⟩ := hsp
      exact ⟨σ', H', J'.ofTry ok, q⟩
    | cont =>
      obtain ⟨σ', H', J', q⟩ := hsp
      exact ⟨σ', H', J'.ofTry ok, q⟩
    | ret u =>
      obtain ⟨v, σ', H', J', r, q⟩ := hsp
      exact ⟨v, σ', H', J'.ofTry ok, r, q⟩
end
end Ff
set_option Elab.async false
set_option linter.all false
set_option maxRecDepth 100000
set_option maxHeartbeats 2000000
namespace Ff
open PySem PySem.Spec PyProof.Rows L2
/-- the script -/
def Scr (K : PySem.W.Frag) (H : Hp) (a : Addr) : Prop := ∃ ns : List Int, ns.length ≤ 63 ∧ SqL K H a (ns.map V.int)
theorem Scr.same {K : PySem.W.Frag} {H H' : Hp} {a : Addr} (e : Same H H') (h : Scr K H a) : Scr K H' a := let ⟨ns, h1, h2⟩ := h; ⟨ns, h1, e.seq h2⟩
theorem dp_ints {K : PySem.W.Frag} {H : Hp} : ∀ ns : List Int, DpAll K H (ns.map V.int) (ns.map PyData.int)
  | [] => .nil
  | n :: ns => .cons (.int n) (dp_ints ns)
theorem sm_ints (ns : List Int) : sm 1 (.list (ns.map PyData.int)) = true := sm_all.mpr fun d hd => by
  obtain ⟨i, _, rfl⟩ := List.mem_map.mp hd
  rfl
section
variable {P : Program} {w : World} {K : PySem.W.Frag} {mg : Str → Option Value} {base : Heap}
/-! ### _law_cell, _law_pick -/
theorem sc_law_cell : FnScope ["_law_script", "_law_k"] ["_law_script", "_law_k"] (defScope s_law_cell) := ⟨rfl, rfl, rfl, by decide +kernel, rfl, by decide +kernel, by decide +kernel⟩
def spCell (K : PySem.W.Frag) : Sp := fun vs H Q _ => ∃ (a : Addr) (k : Nat), vs = [.ref a, .int k] ∧ Scr K H a ∧ ∀ i H', Same H H' → Q (.int i) H'
theorem h_law_cell (tx : Tx K mg) : Has P w K mg base CX0 1 "_law_cell" ["_law_script", "_law_k"] (spCell K) := by
  obtain ⟨fd, F⟩ := tx.fn_law_cell
  refine has_n (st := s_law_cell) F tx.g_law_cell sc_law_cell (fun _ _ _ _ _ _ us hl => match us, hl with | [_, _], _ => rfl) (fun vs H Q E h => ?_) (fun cdv A outer s H vs Q E hr h => ?_)
  · obtain ⟨a, k, rfl, _⟩ := h
    rfl
  · obtain ⟨a, k, rfl, ⟨ns, hl, hs⟩, kq⟩ := h
    refine ⟨_, pss_cons (ps_if (pt_cmpR op_lt (pv 1) (pe_callB call_len_seq (by rfl) tx.z_len b_len (pa_cons (pv 0) pa_nil)) (nomark _)) (pss_one (ps_ret (pe_ix ix_list (pv 0) (pv 1) (fun _ _ => rfl)))) pss_nil)
      (pss_cons (ps_if (pt_cmpR (op_eqD hr.units) (pv 0) (pe_lst pa_nil) (nomark _)) (pss_one (ps_ret pe_int)) pss_nil)
      (pss_one (ps_ret (pe_op op_add (pe_op op_mul (pe_ix ix_list (pv 0) (pe_op op_mod (pv 1) (pe_callB call_len_seq (by rfl) tx.z_len b_len (pa_cons (pv 0) pa_nil))) (fun _ _ => rfl)) pe_int) (pv 1))))), ?_⟩
    have item : ∀ j : Nat, j < ns.length → atI (ns.map V.int) (j : Int) = some (V.int (ns.getD j 0)) := fun j hj => by
      refine atI_nat ?_
      rw [List.getElem?_map, List.getElem?_eq_getElem hj, List.getD_eq_getElem?_getD, List.getElem?_eq_getElem hj]
      rfl
    refine ⟨_, rfl, _, rfl, a, _, rfl, .inl hs, _, _, rfl, rfl, _, rfl, ?_⟩
    refine ite2 (fun c => ?_) (fun c => ?_)
    · have hk : k < ns.length := by
        have z := of_decide_eq_true c
        rw [List.length_map] at z
        omega
      exact ⟨_, rfl, _, rfl, a, _, _, _, rfl, rfl, hs, item k hk, kq _ H (Same.refl _)⟩
    · refine ⟨_, rfl, (by show 0 ≤ sizeLine; exact Nat.zero_le _), fun l hl2 => ?_⟩
      have s1 := same_upd (o := .lst []) hl2
      refine ⟨.list (ns.map PyData.int), .list [], .lst (s1.seq hs) (dp_ints ns), .lst (SqL.of upd_same) .nil, sm_shaped (sm_ints ns) (by decide), sm_shaped (k := 1) rfl (by decide), _, rfl, ?_⟩
      cases ns with
      | nil => exact iteT (kq 0 _ s1)
      | cons n ns =>
        have e0 : PyData.eqv (.list ((n :: ns).map PyData.int)) (.list []) = false := by
          rw [List.map_cons]
          simp [PyData.eqv, PyData.eqvAll]
        rw [e0]
        have hpos : (0 : Int) < (((n :: ns).map V.int).length : Nat) := by
          rw [List.length_map, List.length_cons]
          omega
        have hm : ((k : Int) % (((n :: ns).map V.int).length : Nat)) = ((k % (n :: ns).length : Nat) : Int) := by
          rw [List.length_map]
          rfl
        refine iteF ⟨_, rfl, _, rfl, _, rfl, a, _, rfl, .inl (s1.seq hs), _, _, rfl, rfl, hpos, a, _, _, V.int ((n :: ns).getD (k % (n :: ns).length) 0), rfl, rfl, s1.seq hs, ?_, _, _, rfl, rfl, .inr (by decide), _, rfl, _, _, rfl, rfl, kq _ _ s1⟩
        rw [hm]
        exact item _ (Nat.mod_lt _ (Nat.succ_pos _))
theorem sc_law_pick : FnScope ["_law_script", "_law_k", "_law_many", "_law_drawn"] ["_law_script", "_law_k", "_law_many"] (defScope s_law_pick) := ⟨rfl, rfl, rfl, by decide +kernel, rfl, by decide +kernel, by decide +kernel⟩
def spPick (K : PySem.W.Frag) : Sp := fun vs H Q _ => ∃ (a : Addr) (k m : Nat), vs = [.ref a, .int k, .int m] ∧ 0 < m ∧ Scr K H a ∧ ∀ (i : Nat) H', i < m → Same H H' → Q (.int i) H'
theorem h_law_pick (tx : Tx K mg) : Has P w K mg base CX0 2 "_law_pick" ["_law_script", "_law_k", "_law_many"] (spPick K) := by
  obtain ⟨fd, F⟩ := tx.fn_law_pick
  refine has_n (st := s_law_pick) F tx.g_law_pick sc_law_pick (fun _ _ _ _ _ _ us hl => match us, hl with | [_, _, _], _ => rfl) (fun vs H Q E h => ?_) (fun cdv A outer s H vs Q E hr h => ?_)
  · obtain ⟨a, k, m, rfl, _⟩ := h
    rfl
  · obtain ⟨a, k, m, rfl, hm, hs, kq⟩ := h
    have nd := sc_law_pick.nd
    refine ⟨_, pss_cons (ps_set (i := 3) nd rfl (Or.inl rfl) (pe_op op_mod (pe_op op_mul (pe_op op_add (pe_h0 (h_law_cell tx) hr (pa_cons (pv 0) (pa_cons (pv 1) pa_nil))) (pe_op op_mul pe_int (pe_op op_add (pv 1) pe_int))) pe_int) pe_int))
      (pss_one (ps_ret (pe_op op_mod (pe_op op_mod (pe_op op_add (pe_op op_mul (pv 3) (pv 3)) (pe_op op_fdiv (pv 3) pe_int)) pe_int) (pv 2)))), ?_⟩
    refine ⟨_, rfl, _, rfl, a, k, rfl, hs, fun i H1 s1 => ?_⟩
    refine ⟨_, rfl, _, _, rfl, rfl, _, _, rfl, rfl, .inl (by decide), _, _, rfl, rfl, _, _, rfl, rfl, .inr (by decide), _, _, rfl, rfl, (by show (0 : Int) < 2147483399; decide), ?_⟩
    have hb : 0 ≤ ((i + 6151 * ((k : Int) + 1)) * 40692) % 2147483399 ∧ ((i + 6151 * ((k : Int) + 1)) * 40692) % 2147483399 < 2147483399 := ⟨Int.emod_nonneg _ (by decide), Int.emod_lt_of_pos _ (by decide)⟩
    have fin : ∀ dr : Int, Q (.int ((dr * dr + dr / 31) % 2147483629 % (m : Int))) H1 := fun dr => by
      have r1 : 0 ≤ ((dr * dr + dr / 31) % 2147483629) % (m : Int) := Int.emod_nonneg _ (by omega)
      have r2 : ((dr * dr + dr / 31) % 2147483629) % (m : Int) < m := Int.emod_lt_of_pos _ (by omega)
      have z := kq (((dr * dr + dr / 31) % 2147483629) % (m : Int)).toNat H1 (by omega) s1
      rw [Int.toNat_of_nonneg r1] at z
      exact z
    refine ⟨_, rfl, _, rfl, _, _, rfl, rfl, .inl ?_, _, rfl, _, _, rfl, rfl, ⟨by decide, by decide⟩, _, _, rfl, rfl, _, _, rfl, rfl, (by show (0 : Int) < 2147483629; decide), _, rfl, _, _, rfl, rfl, (by show (0 : Int) < (m : Int); omega), fin _⟩
    exact ⟨Int.lt_of_lt_of_le (by decide) hb.1, Int.lt_trans hb.2 (by decide)⟩
end
end Ff
set_option Elab.async false
set_option linter.all false
set_option maxRecDepth 100000
set_option maxHeartbeats 2000000
namespace Ff
open PySem PySem.Spec PyProof.Rows L2
section
variable {P : Program} {w : World} {K : PySem.W.Frag} {mg : Str → Option Value} {base : Heap}
/-! ### _law_tree, _law_picture -/
theorem sc_law_tree : FnScope ["_law_script", "_law_at", "_law_size", "_law_way", "_law_k"] ["_law_script", "_law_at", "_law_size"] (defScope s_law_tree) := ⟨rfl, rfl, rfl, by decide +kernel, rfl, by decide +kernel, by decide +kernel⟩
def spLTree (K : PySem.W.Frag) (m : Nat) : Sp := fun vs H Q _ => ∃ (a : Addr) (k n : Nat), vs = [.ref a, .int k, .int n] ∧ n ≤ m ∧ Scr K H a ∧ ∀ v t H', T.ok n t → Same H H' → Dp K H' v t.d → Q v H'
/-- the list of worths that a leaf is taken from -/
def tLeafs (K : PySem.W.Frag) : TE := tOp (rIxL K) (tLst (tCons (tC (.int 0)) (tCons (tC (.int 1)) (tCons (tC (.int 1)) (tCons (tC (.int 2)) (tCons (tC (.int 9)) (tCons (tCall (spPick K) [] E0 (tCons (tVar 0) (tCons (tOp (rI0 fun i j => .int (i + j)) (tVar 1) (tC (.int 1))) (tCons (tC (.int 10)) tNil)))) tNil)))))))
        (tCall (spPick K) [] E0 (tCons (tVar 0) (tCons (tOp (rI0 fun i j => .int (i + j)) (tVar 1) (tC (.int 2))) (tCons (tC (.int 6)) tNil))))
theorem st_leaf {H H1 : Hp} {Q : VK} {a : Addr} {k n : Nat} {r : List (Option V)} (hs : Scr K H a) (kq : ∀ v t H', T.ok n t → Same H H' → Dp K H' v t.d → Q v H') (s1 : Same H H1) : tLeafs K (some (.ref a) :: some (.int k) :: r) H1 Q := by
  refine ⟨_, rfl, _, rfl, _, _, rfl, rfl, a, k + 1, 10, rfl, by decide, hs.same s1, fun i H2 hi s2 => ?_⟩
  refine ⟨(by show 6 ≤ sizeLine; decide), fun l hl => ?_⟩
  have s3 := same_upd (o := .lst [.int 0, .int 1, .int 1, .int 2, .int 9, .int i]) hl
  refine ⟨_, rfl, _, rfl, _, _, rfl, rfl, a, k + 2, 6, rfl, by decide, hs.same (Same.trans s1 (Same.trans s2 s3)), fun j H4 hj s4 => ?_⟩
  have hl4 := s4 _ _ (upd_same (H := H2) (a := l) (o := .lst [.int 0, .int 1, .int 1, .int 2, .int 9, .int i]))
  have s14 := Same.trans s1 (Same.trans s2 (Same.trans s3 s4))
  have fin : ∀ (x : Int), 0 ≤ x → x ≤ 9 → ([V.int 0, .int 1, .int 1, .int 2, .int 9, .int i] : List V)[j]? = some (.int x) → rIxL K (.ref l) (.int j) H4 Q := fun x h0 h9 e =>
    ⟨l, _, _, .int x, rfl, rfl, SqL.of hl4, atI_nat e, kq _ (.leaf x) _ (ok_leaf.mpr ⟨h0, h9⟩) s14 (.int _)⟩
  match j, hj, fin with
  | 0, _, fin => exact fin 0 (by decide) (by decide) rfl
  | 1, _, fin => exact fin 1 (by decide) (by decide) rfl
  | 2, _, fin => exact fin 1 (by decide) (by decide) rfl
  | 3, _, fin => exact fin 2 (by decide) (by decide) rfl
  | 4, _, fin => exact fin 9 (by decide) (by decide) rfl
  | 5, _, fin => exact fin i (by omega) (by omega) rfl
theorem st_law_tree (tx : Tx K mg) (m : Nat) (IH : Has P w K mg base CX0 (m + 2) "_law_tree" ["_law_script", "_law_at", "_law_size"] (dn (spLTree K) m)) : Has P w K mg base CX0 (m + 2 + 1) "_law_tree" ["_law_script", "_law_at", "_law_size"] (spLTree K m) := by
  obtain ⟨fd, F⟩ := tx.fn_law_tree
  refine has_n (st := s_law_tree) F tx.g_law_tree sc_law_tree (fun _ _ _ _ _ _ us hl => match us, hl with | [_, _, _], _ => rfl) (fun vs H Q E h => ?_) (fun cdv A outer s H vs Q E hr h => ?_)
  · obtain ⟨a, k, n, rfl, _⟩ := h
    rfl
  · obtain ⟨a, k, n, rfl, hn, hs, kq⟩ := h
    have nd := sc_law_tree.nd
    have hr1 := hr.mono (show 2 ≤ m + 2 by omega)
    refine ⟨_, pss_cons (ps_set (i := 3) nd rfl (Or.inl rfl) (pe_h0 (h_law_pick tx) hr1 (pa_cons (pv 0) (pa_cons (pv 1) (pa_cons pe_int pa_nil)))))
      (pss_cons (ps_if (PW.pt (pw_or (pt_cmpR op_eq (pv 2) pe_int (nomark _)) (pw_or1 (pt_cmpR op_lt (pv 3) pe_int (nomark _)))))
        (pss_one (ps_ret (pe_ix ix_list (pe_lst (pa_cons pe_int (pa_cons pe_int (pa_cons pe_int (pa_cons pe_int (pa_cons pe_int (pa_cons (pe_h0 (h_law_pick tx) hr1 (pa_cons (pv 0) (pa_cons (pe_op op_add (pv 1) pe_int) (pa_cons pe_int pa_nil)))) pa_nil)))))))
          (pe_h0 (h_law_pick tx) hr1 (pa_cons (pv 0) (pa_cons (pe_op op_add (pv 1) pe_int) (pa_cons pe_int pa_nil)))) (fun _ _ => rfl)))) pss_nil)
      (pss_cons (ps_if (pt_cmpR op_eq (pv 3) pe_int (nomark _)) (pss_one (ps_ret (pe_op op_repT (pe_tup (pa_cons (pe_h0 IH hr (pa_cons (pv 0) (pa_cons (pe_op op_add (pv 1) pe_int) (pa_cons (pe_op op_sub (pv 2) pe_int) pa_nil)))) pa_nil)) pe_int))) pss_nil)
      (pss_one (ps_ret (pe_callTy call_tuple_of (by rfl) tx.z_tuple b_tuple (pa_cons (pe_lc (own := [("_law_k", 4)]) (g := gName 4) (tt := tYes) rfl nd (pi_range1 rfl tx.z_range (pa_cons pe_int pa_nil)) (blkOk_by (N := ["_law_script", "_law_at", "_law_size", "_law_way", "_law_k"]) (sc := defScope s_law_tree) (by decide +kernel))
        (fun _ _ _ _ _ => pg_name (i := 4) nd rfl (Or.inl rfl)) (fun _ _ _ _ _ => pts_nil)
        (fun _ _ _ _ _ => pe_h0 IH hr (pa_cons (pv 0) (pa_cons (pe_op op_add (pe_op op_add (pe_op op_mul pe_int (pv 1)) pe_int) (pe_op op_mul pe_int (pv 4))) (pa_cons (pe_op op_sub (pv 2) pe_int) pa_nil))))) pa_nil)))))), ?_⟩
    refine ⟨_, rfl, _, rfl, a, k, 6, rfl, by decide, hs, fun way H1 hway s1 => ?_⟩
    refine ⟨_, rfl, rfl, _, rfl, ?_⟩
    cases n with
    | zero =>
      refine iteT (iteT ?_)
      exact st_leaf hs kq s1
    | succ n =>
      have e0 : decide (V.int ((n + 1 : Nat) : Int) = V.int 0) = false := decide_eq_false (by
        intro z
        injection z with z
        omega)
      rw [e0]
      refine iteF ⟨_, rfl, _, _, rfl, rfl, _, rfl, ?_⟩
      refine ite2 (fun c => ?_) (fun c => ?_)
      · exact st_leaf hs kq s1
      · obtain ⟨m', rfl⟩ : ∃ m', m = m' + 1 := ⟨m - 1, by omega⟩
        have hn' : n ≤ m' := by omega
        have e1 : ((n + 1 : Nat) : Int) - 1 = (n : Int) := by omega
        refine ⟨_, rfl, rfl, _, rfl, ?_⟩
        refine ite2 (fun c2 => ?_) (fun c2 => ?_)
        · refine ⟨_, rfl, _, rfl, _, _, rfl, rfl, _, rfl, _, _, rfl, rfl, a, k + 3, n, ?_, hn', hs.same s1, fun v t H2 ok s2 d2 => ?_⟩
          · show [V.ref a, _, V.int (((n + 1 : Nat) : Int) - 1)] = _
            rw [e1]
            rfl
          refine ⟨(by show 1 ≤ sizeLine; decide), fun r hr2 => ?_⟩
          have s3 := same_upd (o := .tup [v]) hr2
          refine ⟨r, 4, [v], rfl, rfl, SqT.of upd_same, by simp, by decide, by decide, (by show 1 ≤ 1000; decide), fun r2 hr3 => ?_⟩
          have s4 := same_upd (o := .tup (List.replicate (4 : Int).toNat [v]).flatten) hr3
          have d4 := dp_same (Same.trans s3 s4) d2
          exact kq _ (.node t t t t) _ ⟨ok, ok, ok, ok⟩ (Same.trans (Same.trans s1 s2) (Same.trans s3 s4)) (dp_mk (SqT.of upd_same) d4 d4 d4 d4)
        · refine ⟨4, rfl, by decide, by decide, fun D hD => ?_⟩
          refine lc_rangeR (lo := 0) (n := 4) (fun j y H => ∃ t, T.ok n t ∧ Dp K H y t.d) (fun j y H H' acc e b ⟨t, ok, z⟩ => ⟨t, ok, but_tree e b z⟩) hD (by decide) (fun _ => rfl) ?_ ?_
          · intro j H' Q' hj s' kq'
            refine ⟨_, rfl, _, rfl, _, _, rfl, rfl, .inl (by decide), _, _, rfl, rfl, _, rfl, _, _, rfl, rfl, .inl (by decide), _, _, rfl, rfl, _, rfl, _, _, rfl, rfl, a, 5 * k + 7 + 11 * j, n, ?_, hn', hs.same (Same.trans s1 s'), fun v t H2 ok s2 d2 => kq' v H2 s2 ⟨t, ok, d2⟩⟩
            show [V.ref a, V.int (5 * (k : Int) + 7 + 11 * (0 + (j : Int))), V.int (((n + 1 : Nat) : Int) - 1)] = _
            rw [e1, Int.zero_add]
            rfl
          · intro ys H' s' hy hl hR
            obtain ⟨y0, y1, y2, y3, rfl⟩ := four_of_len hl
            obtain ⟨t0, o0, d0⟩ := hR 0 _ rfl
            obtain ⟨t1, o1, d1⟩ := hR 1 _ rfl
            obtain ⟨t2, o2, d2⟩ := hR 2 _ rfl
            obtain ⟨t3, o3, d3⟩ := hR 3 _ rfl
            refine ⟨D, _, rfl, .inl ⟨SqL.of hy, fun r hr2 => kq _ (.node t0 t1 t2 t3) _ ⟨o0, o1, o2, o3⟩ (fun c o z => same_upd hr2 c o (s' c o (s1 c o z))) ?_⟩⟩
            have st := fun {t : T} {v : V} (z : Dp K H' v t.d) => dp_same (same_upd (o := .tup [y0, y1, y2, y3]) hr2) z
            exact dp_mk (SqT.of upd_same) (st d0) (st d1) (st d2) (st d3)
theorem h_law_tree (tx : Tx K mg) (m : Nat) : Has P w K mg base CX0 (m + 2 + 1) "_law_tree" ["_law_script", "_law_at", "_law_size"] (spLTree K m) := by
  obtain ⟨fd, F⟩ := tx.fn_law_tree
  exact has_rec (has_false (st := s_law_tree) F tx.g_law_tree (fun _ _ _ _ _ _ us hl => match us, hl with | [_, _, _], _ => rfl)) (fun m => st_law_tree tx m) m
theorem sc_law_picture : FnScope ["_law_script", "_law_at", "_law_most", "_law_size"] ["_law_script", "_law_at", "_law_most"] (defScope s_law_picture) := ⟨rfl, rfl, rfl, by decide +kernel, rfl, by decide +kernel, by decide +kernel⟩
def spLPic (K : PySem.W.Frag) : Sp := fun vs H Q _ => ∃ (a : Addr) (k : Nat), vs = [.ref a, .int k, .int 3] ∧ Scr K H a ∧ ∀ v n t H', n ≤ 3 → T.ok n t → Same H H' → Dp K H' v (pd n t) → Q v H'
theorem h_law_picture (tx : Tx K mg) : Has P w K mg base CX0 7 "_law_picture" ["_law_script", "_law_at", "_law_most"] (spLPic K) := by
  obtain ⟨fd, F⟩ := tx.fn_law_picture
  refine has_n (st := s_law_picture) F tx.g_law_picture sc_law_picture (fun _ _ _ _ _ _ us hl => match us, hl with | [_, _, _], _ => rfl) (fun vs H Q E h => ?_) (fun cdv A outer s H vs Q E hr h => ?_)
  · obtain ⟨a, k, rfl, _⟩ := h
    rfl
  · obtain ⟨a, k, rfl, hs, kq⟩ := h
    have nd := sc_law_picture.nd
    refine ⟨_, pss_cons (ps_set (i := 3) nd rfl (Or.inl rfl) (pe_callB (call_max2 rfl) (by rfl) tx.z_max b_max (pa_cons pe_int (pa_cons (pe_op op_sub (pv 2)
        (pe_ix ix_list (pe_lst (pa_cons pe_int (pa_cons pe_int (pa_cons pe_int (pa_cons pe_int (pa_cons pe_int (pa_cons pe_int (pa_cons pe_int pa_nil))))))))
          (pe_h0 (h_law_pick tx) (hr.mono (by decide)) (pa_cons (pv 0) (pa_cons (pv 1) (pa_cons pe_int pa_nil)))) (fun _ _ => rfl))) pa_nil))))
      (pss_one (ps_ret (pe_tup (pa_cons (pv 3) (pa_cons (pe_h0 (h_law_tree tx 3) hr (pa_cons (pv 0) (pa_cons (pe_op op_add (pv 1) pe_int) (pa_cons (pv 3) pa_nil)))) pa_nil))))), ?_⟩
    refine ⟨_, rfl, (by show 7 ≤ sizeLine; decide), fun l hl => ?_⟩
    have s1 := same_upd (o := .lst [.int 0, .int 0, .int 0, .int 1, .int 1, .int 2, .int 3]) hl
    refine ⟨_, rfl, _, rfl, a, k, 7, rfl, by decide, hs.same s1, fun j H2 hj s2 => ?_⟩
    have hl2 := s2 _ _ (upd_same (H := H) (a := l) (o := .lst [.int 0, .int 0, .int 0, .int 1, .int 1, .int 2, .int 3]))
    have s12 := Same.trans s1 s2
    have ex : ∃ (x : Int) (n : Nat), n ≤ 3 ∧ (if 3 - x > 0 then 3 - x else 0) = (n : Int) ∧ ([V.int 0, .int 0, .int 0, .int 1, .int 1, .int 2, .int 3] : List V)[j]? = some (.int x) := by
      match j, hj with
      | 0, _ => exact ⟨0, 3, by decide, rfl, rfl⟩
      | 1, _ => exact ⟨0, 3, by decide, rfl, rfl⟩
      | 2, _ => exact ⟨0, 3, by decide, rfl, rfl⟩
      | 3, _ => exact ⟨1, 2, by decide, rfl, rfl⟩
      | 4, _ => exact ⟨1, 2, by decide, rfl, rfl⟩
      | 5, _ => exact ⟨2, 1, by decide, rfl, rfl⟩
      | 6, _ => exact ⟨3, 0, by decide, rfl, rfl⟩
    obtain ⟨x, n, hn, e, e2⟩ := ex
    have fin : ∀ y : V, y = .int n → tRet (tTup (tCons (tVar 3) (tCons (tCall (spLTree K 3) [] E0 (tCons (tVar 0) (tCons (tOp (rI0 fun i j => .int (i + j)) (tVar 1) (tC (.int 1))) (tCons (tVar 3) tNil)))) tNil))) { nx := fun _ H' => Q .non H', rt := Q } [some (.ref a), some (.int k), some (.int 3), some y] H2 := by
      rintro y rfl
      refine ⟨_, rfl, _, rfl, _, rfl, _, _, rfl, rfl, _, rfl, a, k + 1, n, rfl, hn, hs.same s12, fun v t H4 ok s4 d4 => ?_⟩
      refine ⟨(by show 2 ≤ sizeLine; decide), fun r hr => ?_⟩
      exact kq _ n t _ hn ok (fun b o z => same_upd hr b o (s4 b o (s12 b o z))) (pd_mk (SqT.of upd_same) (dp_same (same_upd hr) d4))
    exact ⟨l, _, _, .int x, rfl, rfl, SqL.of hl2, atI_nat e2, _, _, rfl, rfl, _, _, rfl, fin _ (congrArg V.int e)⟩
end
end Ff
set_option Elab.async false
set_option linter.all false
set_option maxRecDepth 100000
set_option maxHeartbeats 2000000
namespace Ff
open PySem PySem.Spec PyProof.Rows L2
/-! ### comprehensions of which a turn knows that the list made stands -/
section
variable {K : PySem.W.Frag} {a : Addr} {xs : List V} {te : TE} {vs : List Nat} {σ : L2.St} {H1 : Hp} {D : Addr} {Qd : Hp → Prop} {i0 : Nat}
theorem lc_tupS (R : Nat → V → Hp → Prop) (hm : ∀ i v H H' acc, H D = some (.lst acc) → But D H H' → R i v H → R i v H') (hn : H1 D = none) (hq : SqT K H1 a xs) (hz : xs.length ≤ 1000)
    (hw : ∀ x, wipe ((wipe σ vs).set i0 (some x)) vs = wipe σ vs)
    (turn : ∀ j x H Q, xs[j]? = some x → Same H1 H → (∃ acc, H D = some (.lst acc)) → (∀ y H', Same H H' → R j y H' → Q y H') → te ((wipe σ vs).set i0 (some x)) H Q)
    (hd : ∀ ys H, Same H1 H → H D = some (.lst ys) → ys.length = xs.length → (∀ j y, ys[j]? = some y → R j y H) → Qd H) :
    ∃ W : Nat → Nat → Hp → Prop, (∃ m, W 0 m (upd H1 D (.lst []))) ∧ ∀ i m H, W i m H →
      ((Itt K a).stop i H ∧ Qd H) ∨ ((Itt K a).go i H ∧ ∃ Nx : Hp → Prop, (∀ H', Nx H' → ∃ m', m' < m ∧ W (i + 1) m' H') ∧ ∀ x H', (Itt K a).yld i H x H' → gName i0 x (wipe σ vs) H' fun σ2 H2 => wipe σ2 vs = wipe σ vs ∧ tYes σ2 H2 fun b H3 =>
        if b = true then te σ2 H3 fun y H4 => ∃ acc, H4 D = some (.lst acc) ∧ acc.length < sizeLine ∧ Nx (upd H4 D (.lst (acc ++ [y]))) else Nx H3) := by
  refine lc_tup (K := K) (a := a) (xs := xs) (LcP H1 D R) (lcp_start hn) (fun i H _ p => same_sqT p.1 hq) (fun i x H e p => ?_) (fun H p => ?_)
  · have hi : i < xs.length := (List.getElem?_eq_some_iff.mp e).1
    have hs : sizeLine = 16777216 := sizeLine_eq
    exact ⟨hw x, iteT (B := LcP H1 D R (i + 1) H) (turn i x H _ e p.1 (p.2.imp fun _ z => z.1) fun y H' s r => lcp_step hm hn (by omega) p s r)⟩
  · obtain ⟨p1, acc, hD, hl, hr⟩ := p
    exact hd acc H p1 hD hl hr
theorem lc_listS (R : Nat → V → Hp → Prop) (hm : ∀ i v H H' acc, H D = some (.lst acc) → But D H H' → R i v H → R i v H') (hn : H1 D = none) (hq : SqL K H1 a xs) (hz : xs.length ≤ 1000)
    (hw : ∀ x, wipe ((wipe σ vs).set i0 (some x)) vs = wipe σ vs)
    (turn : ∀ j x H Q, xs[j]? = some x → Same H1 H → (∃ acc, H D = some (.lst acc)) → (∀ y H', Same H H' → R j y H' → Q y H') → te ((wipe σ vs).set i0 (some x)) H Q)
    (hd : ∀ ys H, Same H1 H → H D = some (.lst ys) → ys.length = xs.length → (∀ j y, ys[j]? = some y → R j y H) → Qd H) :
    ∃ W : Nat → Nat → Hp → Prop, (∃ m, W 0 m (upd H1 D (.lst []))) ∧ ∀ i m H, W i m H →
      ((Itl K a).stop i H ∧ Qd H) ∨ ((Itl K a).go i H ∧ ∃ Nx : Hp → Prop, (∀ H', Nx H' → ∃ m', m' < m ∧ W (i + 1) m' H') ∧ ∀ x H', (Itl K a).yld i H x H' → gName i0 x (wipe σ vs) H' fun σ2 H2 => wipe σ2 vs = wipe σ vs ∧ tYes σ2 H2 fun b H3 =>
        if b = true then te σ2 H3 fun y H4 => ∃ acc, H4 D = some (.lst acc) ∧ acc.length < sizeLine ∧ Nx (upd H4 D (.lst (acc ++ [y]))) else Nx H3) := by
  refine lc_list (K := K) (a := a) (xs := xs) (LcP H1 D R) (lcp_start hn) (fun i H _ p => p.1.seq hq) (fun i x H e p => ?_) (fun H p => ?_)
  · have hi : i < xs.length := (List.getElem?_eq_some_iff.mp e).1
    have hs : sizeLine = 16777216 := sizeLine_eq
    exact ⟨hw x, iteT (B := LcP H1 D R (i + 1) H) (turn i x H _ e p.1 (p.2.imp fun _ z => z.1) fun y H' s r => lcp_step hm hn (by omega) p s r)⟩
  · obtain ⟨p1, acc, hD, hl, hr⟩ := p
    exact hd acc H p1 hD hl hr
theorem lc_rangeS {lo : Int} {n : Nat} (R : Nat → V → Hp → Prop) (hm : ∀ i v H H' acc, H D = some (.lst acc) → But D H H' → R i v H → R i v H') (hn : H1 D = none) (hz : n ≤ 1000)
    (hw : ∀ x, wipe ((wipe σ vs).set i0 (some x)) vs = wipe σ vs)
    (turn : ∀ (j : Nat) H Q, j < n → Same H1 H → (∃ acc, H D = some (.lst acc)) → (∀ y H', Same H H' → R j y H' → Q y H') → te ((wipe σ vs).set i0 (some (.int (lo + j)))) H Q)
    (hd : ∀ ys H, Same H1 H → H D = some (.lst ys) → ys.length = n → (∀ j y, ys[j]? = some y → R j y H) → Qd H) :
    ∃ W : Nat → Nat → Hp → Prop, (∃ m, W 0 m (upd H1 D (.lst []))) ∧ ∀ i m H, W i m H →
      ((Itr lo n).stop i H ∧ Qd H) ∨ ((Itr lo n).go i H ∧ ∃ Nx : Hp → Prop, (∀ H', Nx H' → ∃ m', m' < m ∧ W (i + 1) m' H') ∧ ∀ x H', (Itr lo n).yld i H x H' → gName i0 x (wipe σ vs) H' fun σ2 H2 => wipe σ2 vs = wipe σ vs ∧ tYes σ2 H2 fun b H3 =>
        if b = true then te σ2 H3 fun y H4 => ∃ acc, H4 D = some (.lst acc) ∧ acc.length < sizeLine ∧ Nx (upd H4 D (.lst (acc ++ [y]))) else Nx H3) := by
  refine lc_range (lo := lo) (n := n) (LcP H1 D R) (lcp_start hn) (fun i H hi p => ?_) (fun H p => ?_)
  · have hs : sizeLine = 16777216 := sizeLine_eq
    exact ⟨hw _, iteT (B := LcP H1 D R (i + 1) H) (turn i H _ hi p.1 (p.2.imp fun _ z => z.1) fun y H' s r => lcp_step hm hn (by omega) p s r)⟩
  · obtain ⟨p1, acc, hD, hl, hr⟩ := p
    exact hd acc H p1 hD hl hr
end
/-! ### rows -/
/-- a row, held where f says -/
def Row (f : Addr → Prop) (H : Hp) (r : List Int) (v : V) : Prop := ∃ p, v = .ref p ∧ f p ∧ H p = some (.lst (r.map V.int))
/-- rows -/
def Rws (f : Addr → Prop) (H : Hp) (rs : List (List Int)) (xs : List V) : Prop := xs.length = rs.length ∧ ∀ (j : Nat) (x : V) (r : List Int), xs[j]? = some x → rs[j]? = some r → Row f H r x
theorem Rws.same {f : Addr → Prop} {H H' : Hp} {rs : List (List Int)} {xs : List V} (e : Same H H') (h : Rws f H rs xs) : Rws f H' rs xs := ⟨h.1, fun j x r h1 h2 => let ⟨p, e1, e2, e3⟩ := h.2 j x r h1 h2; ⟨p, e1, e2, e _ _ e3⟩⟩
theorem Rws.imp {f g : Addr → Prop} {H : Hp} {rs : List (List Int)} {xs : List V} (h : Rws f H rs xs) (hi : ∀ p, f p → (∃ o, H p = some o) → g p) : Rws g H rs xs := ⟨h.1, fun j x r h1 h2 => let ⟨p, e1, e2, e3⟩ := h.2 j x r h1 h2; ⟨p, e1, hi p e2 ⟨_, e3⟩, e3⟩⟩
theorem Rws.but {f : Addr → Prop} {D : Addr} {H H' : Hp} {rs : List (List Int)} {xs : List V} (b : But D H H') (hf : ∀ p, f p → p ≠ D) (h : Rws f H rs xs) : Rws f H' rs xs := ⟨h.1, fun j x r h1 h2 => let ⟨p, e1, e2, e3⟩ := h.2 j x r h1 h2; ⟨p, e1, e2, b _ _ (hf p e2) e3⟩⟩
theorem Rws.nil {f : Addr → Prop} {H : Hp} : Rws f H [] [] := ⟨rfl, fun j x r h1 _ => by simp at h1⟩
theorem Rws.add {f : Addr → Prop} {H : Hp} {rs rs2 : List (List Int)} {xs xs2 : List V} (h : Rws f H rs xs) (h2 : Rws f H rs2 xs2) : Rws f H (rs ++ rs2) (xs ++ xs2) := by
  refine ⟨by rw [List.length_append, List.length_append, h.1, h2.1], fun j x r e1 e2 => ?_⟩
  by_cases c : j < xs.length
  · rw [List.getElem?_append_left c] at e1
    rw [List.getElem?_append_left (by rw [← h.1]; exact c)] at e2
    exact h.2 j x r e1 e2
  · rw [List.getElem?_append_right (by omega)] at e1
    rw [List.getElem?_append_right (by rw [← h.1]; omega), ← h.1] at e2
    exact h2.2 _ x r e1 e2
theorem Rws.get {f : Addr → Prop} {H : Hp} {rs : List (List Int)} {xs : List V} (h : Rws f H rs xs) {j : Nat} (hj : j < rs.length) : ∃ p r, xs[j]? = some (V.ref p) ∧ rs[j]? = some r ∧ f p ∧ H p = some (.lst (r.map V.int)) := by
  have hx : j < xs.length := by rw [h.1]; exact hj
  obtain ⟨p, e1, e2, e3⟩ := h.2 j _ _ (List.getElem?_eq_getElem hx) (List.getElem?_eq_getElem hj)
  exact ⟨p, _, by rw [List.getElem?_eq_getElem hx, e1], List.getElem?_eq_getElem hj, e2, e3⟩
end Ff
set_option Elab.async false
set_option linter.all false
set_option maxRecDepth 100000
set_option maxHeartbeats 2000000
namespace Ff
open PySem PySem.Spec PyProof.Rows L2
theorem atI_z {α : Type} {xs : List α} {j : Nat} {v : α} (h : xs[j]? = some v) : atI xs (0 + (j : Int)) = some v := by
  rw [Int.zero_add]
  exact atI_nat h
theorem sel_get {α : Type} {a b c d : α} {j : Nat} (h : j < 4) : ([a, b, c, d] : List α)[j]? = some (sel j a b c d) := by
  match j, h with
  | 0, _ => rfl
  | 1, _ => rfl
  | 2, _ => rfl
  | 3, _ => rfl
theorem pow_le4 {n : Nat} (h : n ≤ 2) : 2 ^ n ≤ 4 := by
  match n, h with
  | 0, _ => decide
  | 1, _ => decide
  | 2, _ => decide
theorem ne_none {H : Hp} {p D : Addr} {o : HO} (h : H p = none) (hD : H D = some o) : p ≠ D := fun z => by
  rw [z, hD] at h
  cases h
section
variable {P : Program} {w : World} {K : PySem.W.Frag} {mg : Str → Option Value} {base : Heap}
/-- the four parts -/
theorem t_parts {H : Hp} {t : T} {v : V} {Q : VK} {σ : L2.St} (hv : σ[1]? = some (some v)) (hd : Dp K H v t.d)
    (k : ∀ pp v0 v1 v2 v3 H1, Same H H1 → SqT K H1 pp [v0, v1, v2, v3] → (∀ j, j < 4 → Dp K H1 (sel j v0 v1 v2 v3) (q t j).d) → Q (.ref pp) H1) :
    tIf (tB (tIs K (tVar 1) "tuple" isU)) (tVar 1) (tOp (rRepT K) (tTup (tCons (tVar 1) tNil)) (tC (.int 4))) σ H Q := by
  refine ⟨_, hv, v, t.d, rfl, hd, _, rfl, ?_⟩
  cases t with
  | leaf i =>
    have e := dp_leaf hd
    subst e
    refine iteF ⟨_, hv, (by show 1 ≤ sizeLine; decide), fun r hr => ?_⟩
    have s3 := same_upd (o := .tup [V.int i]) hr
    refine ⟨r, 4, [V.int i], rfl, rfl, SqT.of upd_same, by simp, by decide, by decide, (by show 1 ≤ 1000; decide), fun r2 hr3 => ?_⟩
    have s4 := same_upd (o := .tup (List.replicate (4 : Int).toNat [V.int i]).flatten) hr3
    exact k r2 (.int i) (.int i) (.int i) (.int i) _ (Same.trans s3 s4) (SqT.of upd_same) fun j hj => sel_all (P := fun x => Dp K _ x (.int i)) j (.int i) (.int i) (.int i) (.int i)
  | node a b c d =>
    obtain ⟨p, va, vb, vc, vd, rfl, hs, h1, h2, h3, h4⟩ := dp_node hd
    refine iteT ⟨_, hv, k p va vb vc vd H (Same.refl _) hs fun j hj => ?_⟩
    match j, hj with
    | 0, _ => exact h1
    | 1, _ => exact h2
    | 2, _ => exact h3
    | 3, _ => exact h4
/-! ### _law_rows_of -/
theorem sc_law_rows_of : FnScope ["_law_size", "_law_tree_here", "_law_parts", "_law_some", "_law_made", "_law_upper", "_law_part", "_law_k"] ["_law_size", "_law_tree_here"] (defScope s_law_rows_of) := ⟨rfl, rfl, rfl, by decide +kernel, rfl, by decide +kernel, by decide +kernel⟩
def spRowsOf (K : PySem.W.Frag) (m : Nat) : Sp := fun vs H Q _ => ∃ (v : V) (t : T) (n : Nat), vs = [.int n, v] ∧ n ≤ m ∧ m ≤ 3 ∧ T.ok n t ∧ Dp K H v t.d ∧
  ∀ H' l xs, Same H H' → H l = none → H' l = some (.lst xs) → Rws (fun p => H p = none) H' (rows n t) xs → Q (.ref l) H'
/-- the rows made behind some halves -/
def sofar (n : Nat) (t : T) : Nat → List (List Int)
  | 0 => []
  | 1 => join2 (rows n (q t 0)) (rows n (q t 1))
  | _ => join2 (rows n (q t 0)) (rows n (q t 1)) ++ join2 (rows n (q t 2)) (rows n (q t 3))
theorem sofar_step (n : Nat) (t : T) {i : Nat} (hi : i < 2) : sofar n t (i + 1) = sofar n t i ++ join2 (rows n (q t (2 * i))) (rows n (q t (2 * i + 1))) := by
  match i, hi with
  | 0, _ => rfl
  | 1, _ => rfl
theorem st_law_rows_of (tx : Tx K mg) (m : Nat) (IH : Has P w K mg base CX0 (m + 0) "_law_rows_of" ["_law_size", "_law_tree_here"] (dn (spRowsOf K) m)) : Has P w K mg base CX0 (m + 0 + 1) "_law_rows_of" ["_law_size", "_law_tree_here"] (spRowsOf K m) := by
  obtain ⟨fd, F⟩ := tx.fn_law_rows_of
  refine has_n (st := s_law_rows_of) F tx.g_law_rows_of sc_law_rows_of (fun _ _ _ _ _ _ us hl => match us, hl with | [_, _], _ => rfl) (fun vs H Q E h => ?_) (fun cdv A outer s H vs Q E hr h => ?_)
  · obtain ⟨v, t, n, rfl, _⟩ := h
    rfl
  · obtain ⟨v, t, n, rfl, hn, hm, ok, hd, kq⟩ := h
    have nd := sc_law_rows_of.nd
    refine ⟨_, pss_cons (ps_if (pt_cmpR op_eq (pv 0) pe_int (nomark _)) (pss_one (ps_ret (pe_lst (pa_cons (pe_lst (pa_cons (pv 1) pa_nil)) pa_nil)))) pss_nil)
      (pss_cons (ps_set (i := 2) nd rfl (Or.inl rfl) (pe_ifExp (pt_val (pe_isU tx.z_isinstance tx.z_tuple (pv 1))) (pv 1) (pe_op op_repT (pe_tup (pa_cons (pv 1) pa_nil)) pe_int)))
      (pss_cons (ps_set (i := 3) nd rfl (Or.inr rfl) (pe_lc (own := [("_law_part", 6)]) (g := gName 6) (tt := tYes) rfl nd (pi_tup (pv 2)) (blkOk_by (N := ["_law_size", "_law_tree_here", "_law_parts", "_law_some", "_law_made", "_law_upper", "_law_part", "_law_k"]) (sc := defScope s_law_rows_of) (by decide +kernel))
        (fun _ _ _ _ _ => pg_name (i := 6) nd rfl (Or.inl rfl)) (fun _ _ _ _ _ => pts_nil) (fun _ _ _ _ _ => pe_h0 IH hr (pa_cons (pe_op op_sub (pv 0) pe_int) (pa_cons (pv 6) pa_nil)))))
      (pss_cons (ps_set (i := 4) nd rfl (Or.inl rfl) (pe_lst pa_nil))
      (pss_cons (ps_for PassesOwn.never rfl (pi_tup (pe_tup (pa_cons pe_int (pa_cons pe_int pa_nil)))) (pg_name (i := 5) nd rfl (Or.inr rfl))
        (pss_one (ps_expr (pe_bm PySem.F.plainAttrs_list PySem.F.slot_list_extend PySem.F.type_list_extend mt_extend (pv 4) (pa_cons
          (pe_lc (own := [("_law_k", 7)]) (g := gName 7) (tt := tYes) rfl nd (pi_range1 rfl tx.z_range (pa_cons (pe_callB call_len_seq (by rfl) tx.z_len b_len (pa_cons (pe_ix (r := rIxL K) ix_list (pv 3) (pv 5) (fun _ _ => rfl)) pa_nil)) pa_nil)) (blkOk_by (N := ["_law_size", "_law_tree_here", "_law_parts", "_law_some", "_law_made", "_law_upper", "_law_part", "_law_k"]) (sc := defScope s_law_rows_of) (by decide +kernel))
            (fun _ _ _ _ _ => pg_name (i := 7) nd rfl (Or.inl rfl)) (fun _ _ _ _ _ => pts_nil)
            (fun _ _ _ _ _ => pe_op op_cat (pe_ix (r := rIxL K) ix_list (pe_ix (r := rIxL K) ix_list (pv 3) (pv 5) (fun _ _ => rfl)) (pv 7) (fun _ _ => rfl)) (pe_ix (r := rIxL K) ix_list (pe_ix (r := rIxL K) ix_list (pv 3) (pe_op op_add (pv 5) pe_int) (fun _ _ => rfl)) (pv 7) (fun _ _ => rfl)))) pa_nil)))))
      (pss_one (ps_ret (pv 4))))))), ?_⟩
    refine ⟨_, rfl, rfl, _, rfl, ?_⟩
    cases n with
    | zero =>
      refine iteT ⟨_, rfl, (by show 1 ≤ sizeLine; decide), fun l1 h1 => ⟨(by show 1 ≤ sizeLine; decide), fun l2 h2 => ?_⟩⟩
      cases t with
      | node a b c d => exact ok.elim
      | leaf i =>
        have e := dp_leaf hd
        subst e
        have s1 := same_upd (o := .lst [.int i]) h1
        refine kq _ l2 [.ref l1] (Same.trans s1 (same_upd h2)) (s1.free h2) upd_same ⟨rfl, fun j x r e1 e2 => ?_⟩
        match j, e1, e2 with
        | 0, e1, e2 =>
          cases e1
          cases e2
          exact ⟨l1, rfl, h1, by rw [upd_ne (ne_of_none (upd_same (H := H) (a := l1) (o := .lst [.int i])) h2)]; exact upd_same⟩
    | succ n =>
      obtain ⟨m', rfl⟩ : ∃ m', m = m' + 1 := ⟨m - 1, by omega⟩
      have hn' : n ≤ m' := by omega
      have e0 : decide (V.int ((n + 1 : Nat) : Int) = V.int 0) = false := decide_eq_false (by
        intro z
        injection z with z
        omega)
      rw [e0]
      refine iteF ?_
      refine t_parts rfl hd fun pp v0 v1 v2 v3 H1 s1 hpp hq => ?_
      refine ⟨_, rfl, pp, rfl, ⟨_, hpp⟩, fun D hD => ?_⟩
      refine lc_tupS (K := K) (xs := [v0, v1, v2, v3]) (fun j y H' => ∃ l xs, y = .ref l ∧ l ≠ D ∧ H' l = some (.lst xs) ∧ Rws (fun p => p ≠ D) H' (rows n (q t j)) xs)
        (fun j y H' H'' acc e b ⟨l, xs, e1, e2, e3, e4⟩ => ⟨l, xs, e1, e2, b _ _ e2 e3, e4.but b fun _ z => z⟩) hD hpp (by simp) (fun _ => rfl) ?_ ?_
      · intro j x H' Q' hx s' hacc kq'
        obtain ⟨hj, rfl⟩ := get4 hx
        obtain ⟨acc, hacc⟩ := hacc
        refine ⟨_, rfl, _, _, rfl, rfl, _, rfl, sel j v0 v1 v2 v3, q t j, n, ?_, hn', by omega, q_ok ok j, dp_same s' (hq j hj), fun H2 l xs s2 hl hl2 hr2 => ?_⟩
        · show [V.int (((n + 1 : Nat) : Int) - 1), _] = _
          have e1 : ((n + 1 : Nat) : Int) - 1 = (n : Int) := by omega
          rw [e1]
        · exact kq' _ H2 s2 ⟨l, xs, rfl, ne_none hl hacc, hl2, hr2.imp fun p z _ => ne_none z hacc⟩
      · intro ys Hs s' hy hl hR
        obtain ⟨y0, y1, y2, y3, rfl⟩ := four_of_len hl
        obtain ⟨l0, x0, rfl, _, a0, r0⟩ := hR 0 _ rfl
        obtain ⟨l1, x1, rfl, _, a1, r1⟩ := hR 1 _ rfl
        obtain ⟨l2, x2, rfl, _, a2, r2⟩ := hR 2 _ rfl
        obtain ⟨l3, x3, rfl, _, a3, r3⟩ := hR 3 _ rfl
        have hA : ∀ j, j < 4 → ∃ l x, ([V.ref l0, .ref l1, .ref l2, .ref l3] : List V)[j]? = some (.ref l) ∧ Hs l = some (.lst x) ∧ Rws (fun p => p ≠ D) Hs (rows n (q t j)) x := fun j hj => by
          match j, hj with
          | 0, _ => exact ⟨l0, x0, rfl, a0, r0⟩
          | 1, _ => exact ⟨l1, x1, rfl, a1, r1⟩
          | 2, _ => exact ⟨l2, x2, rfl, a2, r2⟩
          | 3, _ => exact ⟨l3, x3, rfl, a3, r3⟩
        refine ⟨(by show 0 ≤ sizeLine; exact Nat.zero_le _), fun L hL => ?_⟩
        have sL := same_upd (o := .lst []) hL
        refine ⟨(by show 2 ≤ sizeLine; decide), fun tp htp => ?_⟩
        have sT := same_upd (o := .tup [.int 0, .int 2]) htp
        have pow4 := pow_le4 (show n ≤ 2 by omega)
        refine ⟨tp, rfl, ⟨_, SqT.of upd_same⟩, for_tup (K := K) (xs := [.int 0, .int 2]) (fun i σ H' => ∃ (o5 o6 o7 : Option V) (xs : List V), σ = [some (.int ((n + 1 : Nat) : Int)), some v, some (.ref pp), some (.ref D), some (.ref L), o5, o6, o7] ∧
          Same Hs H' ∧ SqT K H' tp [.int 0, .int 2] ∧ H' L = some (.lst xs) ∧ Rws (fun p => Hs p = none ∧ p ≠ L) H' (sofar n t i) xs) ?_ (fun i σ H' _ ⟨_, _, _, _, _, _, z, _⟩ => z) ?_ ?_⟩
        · exact ⟨none, none, none, [], rfl, Same.trans sL sT, SqT.of upd_same, sT _ _ upd_same, Rws.nil⟩
        · rintro i x σ H' hx ⟨o5, o6, o7, xs, rfl, sH, hT, hLx, hW⟩
          obtain ⟨hi, rfl⟩ : i < 2 ∧ x = .int ((2 * i : Nat) : Int) := by
            match i, hx with
            | 0, hx => cases hx; exact ⟨by decide, rfl⟩
            | 1, hx => cases hx; exact ⟨by decide, rfl⟩
          obtain ⟨la, xa, ea, ha, ra⟩ := hA (2 * i) (by omega)
          obtain ⟨lb, xb, eb, hb, rb⟩ := hA (2 * i + 1) (by omega)
          have la4 : xa.length = 2 ^ n := by rw [ra.1, rows_length]
          have lb4 : xb.length = 2 ^ n := by rw [rb.1, rows_length]
          have hD' := sH _ _ hy
          refine ⟨_, rfl, .inl ⟨rfl, _, SqL.of hLx⟩, _, rfl, _, rfl, D, _, _, .ref la, rfl, rfl, SqL.of hD', atI_nat ea, la, xa, rfl, .inl (SqL.of (sH _ _ ha)), (xa.length : Int), rfl, by omega, by omega, fun D2 hD2 => ?_⟩
          refine lc_rangeS (lo := 0) (n := xa.length) (fun j y H'' => ∃ p ra' rb', y = .ref p ∧ p ≠ D2 ∧ p ≠ L ∧ Hs p = none ∧ (rows n (q t (2 * i)))[j]? = some ra' ∧ (rows n (q t (2 * i + 1)))[j]? = some rb' ∧ H'' p = some (.lst ((ra' ++ rb').map V.int)))
            (fun j y H1 H2 acc e b ⟨p, ra', rb', e1, e2, e3, e4, e5, e6, e7⟩ => ⟨p, ra', rb', e1, e2, e3, e4, e5, e6, b _ _ e2 e7⟩) hD2 (by omega) (fun _ => rfl) ?_ ?_
          · intro j H5 Q' hj s5 hacc kq'
            obtain ⟨acc, hacc⟩ := hacc
            obtain ⟨pa, rwa, ga1, ga2, _, ga3⟩ := ra.get (j := j) (by rw [rows_length]; omega)
            obtain ⟨pb, rwb, gb1, gb2, _, gb3⟩ := rb.get (j := j) (by rw [rows_length]; omega)
            have sHs := Same.trans sH s5
            have wa := rows_wide n _ _ (List.mem_of_getElem? ga2)
            have wb := rows_wide n _ _ (List.mem_of_getElem? gb2)
            have hs : sizeLine = 16777216 := sizeLine_eq
            refine ⟨_, rfl, _, rfl, D, _, _, .ref la, rfl, rfl, SqL.of (sHs _ _ hy), atI_nat ea, _, rfl, la, _, _, .ref pa, rfl, rfl, SqL.of (sHs _ _ ha), atI_z ga1, ?_⟩
            refine ⟨_, rfl, _, rfl, _, _, rfl, rfl, D, _, _, .ref lb, rfl, rfl, SqL.of (sHs _ _ hy), atI_nat (j := 2 * i + 1) eb, _, rfl, lb, _, _, .ref pb, rfl, rfl, SqL.of (sHs _ _ hb), atI_z gb1, ?_⟩
            refine ⟨pa, pb, _, _, rfl, rfl, sHs _ _ ga3, sHs _ _ gb3, by rw [List.length_map, List.length_map]; omega, fun p hp => ?_⟩
            rw [← List.map_append]
            exact kq' _ _ (same_upd hp) ⟨p, rwa, rwb, rfl, ne_none hp hacc, ne_none hp (s5 _ _ hLx), sHs.free hp, ga2, gb2, upd_same⟩
          · intro ys H5 s5 hy5 hl5 hR5
            have hs : sizeLine = 16777216 := sizeLine_eq
            have lx : xs.length ≤ 8 := by
              rw [hW.1]
              match i, hi with
              | 0, _ => exact Nat.zero_le _
              | 1, _ =>
                show (join2 (rows n (q t 0)) (rows n (q t 1))).length ≤ 8
                rw [join2_length, rows_length, rows_length]
                omega
            refine ⟨L, D2, xs, ys, rfl, rfl, s5 _ _ hLx, hy5, by omega, ?_⟩
            have nLs : Hs L = none := hL
            refine ⟨_, o6, o7, xs ++ ys, rfl, fun c o z => ?_, ?_, upd_same, ?_⟩
            · rw [upd_ne (ne_of_none z nLs)]
              exact s5 _ _ (sH _ _ z)
            · exact but_sqT (s5 _ _ hLx) but_upd (same_sqT s5 hT)
            · rw [sofar_step n t hi]
              have lj : (join2 (rows n (q t (2 * i))) (rows n (q t (2 * i + 1)))).length = 2 ^ n := by rw [join2_length, rows_length, rows_length, Nat.min_self]
              refine Rws.add ((hW.same s5).but but_upd fun p z => z.2) ⟨by rw [lj, hl5, la4], fun j y r e1 e2 => ?_⟩
              obtain ⟨p, ra', rb', f1, f2, f3, f4, f5, f6, f7⟩ := hR5 j y e1
              obtain ⟨u1, u2, g1, g2, g3⟩ := join2_get e2
              rw [f5] at g1
              rw [f6] at g2
              cases g1
              cases g2
              exact ⟨p, f1, ⟨f4, f3⟩, by rw [g3, upd_ne f3]; exact f7⟩
        · rintro σ H' ⟨o5, o6, o7, xs, rfl, sH, hT, hLx, hW⟩
          have s01 := Same.trans s1 s'
          exact ⟨_, rfl, kq H' L xs (Same.trans s01 sH) (s01.free hL) hLx (hW.imp fun p z _ => s01.free z.1)⟩
theorem h_law_rows_of (tx : Tx K mg) (m : Nat) : Has P w K mg base CX0 (m + 0 + 1) "_law_rows_of" ["_law_size", "_law_tree_here"] (spRowsOf K m) := by
  obtain ⟨fd, F⟩ := tx.fn_law_rows_of
  exact has_rec (has_false (st := s_law_rows_of) F tx.g_law_rows_of (fun _ _ _ _ _ _ us hl => match us, hl with | [_, _], _ => rfl)) (fun m => st_law_rows_of tx m) m
end
end Ff
set_option Elab.async false
set_option linter.all false
set_option maxRecDepth 100000
set_option maxHeartbeats 2000000
namespace Ff
open PySem PySem.Spec PyProof.Rows L2
theorem pow_le8 {n : Nat} (h : n ≤ 3) : 2 ^ n ≤ 8 := by
  match n, h with
  | 0, _ => decide
  | 1, _ => decide
  | 2, _ => decide
  | 3, _ => decide
/-- rows that are tuples -/
def RwT (K : PySem.W.Frag) (H : Hp) (rs : List (List Int)) (xs : List V) : Prop := xs.length = rs.length ∧ ∀ (j : Nat) (x : V) (r : List Int), xs[j]? = some x → rs[j]? = some r → ∃ p, x = .ref p ∧ SqT K H p (r.map V.int)
theorem RwT.same {K : PySem.W.Frag} {H H' : Hp} {rs : List (List Int)} {xs : List V} (e : Same H H') (h : RwT K H rs xs) : RwT K H' rs xs := ⟨h.1, fun j x r h1 h2 => let ⟨p, e1, e2⟩ := h.2 j x r h1 h2; ⟨p, e1, same_sqT e e2⟩⟩
theorem RwT.get {K : PySem.W.Frag} {H : Hp} {rs : List (List Int)} {xs : List V} (h : RwT K H rs xs) {j : Nat} (hj : j < rs.length) : ∃ p r, xs[j]? = some (V.ref p) ∧ rs[j]? = some r ∧ SqT K H p (r.map V.int) := by
  have hx : j < xs.length := by rw [h.1]; exact hj
  obtain ⟨p, e1, e2⟩ := h.2 j _ _ (List.getElem?_eq_getElem hx) (List.getElem?_eq_getElem hj)
  exact ⟨p, _, by rw [List.getElem?_eq_getElem hx, e1], List.getElem?_eq_getElem hj, e2⟩
theorem RwT.cut {K : PySem.W.Frag} {H : Hp} {rs : List (List Int)} {xs : List V} (h : RwT K H rs xs) (a k : Nat) : RwT K H ((rs.drop a).take k) ((xs.drop a).take k) := by
  refine ⟨by rw [List.length_take, List.length_take, List.length_drop, List.length_drop, h.1], fun j x r h1 h2 => ?_⟩
  rw [List.getElem?_take] at h1 h2
  split at h1
  · rename_i c
    rw [if_pos c] at h2
    rw [List.getElem?_drop] at h1 h2
    exact h.2 _ x r h1 h2
  · cases h1
theorem cut_at {xs : List V} {a k : Nat} (h : a + k ≤ xs.length) : cutV xs (some (a : Int)) (some ((a : Int) + (k : Int))) = (xs.drop a).take k := by
  unfold cutV
  have e : ((a : Int) + (k : Int)) = ((a + k : Nat) : Int) := by omega
  rw [e, HT.sIx_nat, HT.sIx_nat, Nat.min_eq_left (show a ≤ xs.length by omega), Nat.min_eq_left h, Nat.add_sub_cancel_left]
theorem cut_not {n a k : Nat} (h : a + k ≤ n) (hk : k < n) : ¬ (HT.sIx n 0 (some (a : Int)) = 0 ∧ HT.sIx n n (some ((a : Int) + (k : Int))) = n) := by
  have e : ((a : Int) + (k : Int)) = ((a + k : Nat) : Int) := by omega
  rw [e, HT.sIx_nat, HT.sIx_nat]
  rintro ⟨z1, z2⟩
  rw [Nat.min_eq_left (by omega)] at z1
  rw [Nat.min_eq_left h] at z2
  omega
theorem flat_len {k : Nat} : ∀ {rs : List (List Int)}, (∀ r ∈ rs, r.length ≤ k) → rs.flatten.length ≤ k * rs.length
  | [], _ => Nat.zero_le _
  | r :: rs, h => by
    have h1 := h r List.mem_cons_self
    have h2 := flat_len (rs := rs) fun x hx => h x (List.mem_cons_of_mem _ hx)
    rw [List.flatten_cons, List.length_append, List.length_cons, Nat.mul_succ]
    omega
theorem set_one {l : List Int} (h : l ≠ []) (u : uni l = true) : (PyProof.Rows.firstMet (fun i => l.getD i 0) l.length).length = 1 := by
  have hp : 0 < l.length := by
    cases l with
    | nil => exact absurd rfl h
    | cons a b => exact Nat.succ_pos _
  rw [firstMet_one (c := l.headD 0) hp fun j hj => ?_]
  · rfl
  · have z := List.all_eq_true.mp u (l.getD j 0) (by
      rw [List.getD_eq_getElem?_getD, List.getElem?_eq_getElem hj]
      exact List.getElem_mem hj)
    exact beq_iff_eq.mp z
theorem set_uni {l : List Int} (h : (PyProof.Rows.firstMet (fun i => l.getD i 0) l.length).length = 1) : uni l = true := by
  refine List.all_eq_true.mpr fun x hx => ?_
  obtain ⟨j, hj, e⟩ := List.mem_iff_getElem.mp hx
  have z := firstMet_all h j 0 hj (by omega)
  refine beq_iff_eq.mpr ?_
  rw [List.getD_eq_getElem?_getD, List.getElem?_eq_getElem hj] at z
  have z1 : x = l.getD 0 0 := by rw [← z, ← e]; rfl
  rw [z1]
  cases l with
  | nil => rfl
  | cons a b => rfl
/-- a list is grown by one tree -/
theorem parts_add {K : PySem.W.Frag} {f : Nat → T} {ys : List V} {H6 : Hp} {L : Addr} {v : V} (hL6 : H6 L = some (.lst ys)) (hR : ∀ j y, ys[j]? = some y → Dp K H6 y (f j).d) (hv : Dp K H6 v (f ys.length).d) :
    ∀ j y, (ys ++ [v])[j]? = some y → Dp K (upd H6 L (.lst (ys ++ [v]))) y (f j).d := fun j y z => by
  refine but_tree hL6 but_upd ?_
  by_cases hj : j < ys.length
  · rw [List.getElem?_append_left hj] at z
    exact hR j y z
  · rw [List.getElem?_append_right (by omega)] at z
    have hj0 : j - ys.length = 0 := by
      by_cases z0 : j - ys.length = 0
      · exact z0
      · rw [List.getElem?_eq_none (by simp only [List.length_cons, List.length_nil]; omega)] at z
        cases z
    rw [hj0] at z
    have e1 : v = y := Option.some.inj z
    have e2 : j = ys.length := by omega
    rw [e2, ← e1]
    exact hv
/-- a for over a list or a tuple -/
theorem for_seqV {K : PySem.W.Frag} {i : Nat} {a : Addr} {xs : List V} {g : TG} {tb : TS} {D : Ends} {σ : L2.St} {H H0 : Hp} (hv : σ[i]? = some (some (.ref a))) (hq : SqL K H0 a xs ∨ SqT K H0 a xs) (Pv : Nat → L2.St → Hp → Prop) (h0 : Pv 0 σ H) (hl : ∀ j σ' H', Pv j σ' H' → Same H0 H')
    (hs : ∀ j x σ' H', xs[j]? = some x → Pv j σ' H' → g x σ' H' fun σ2 H2 => tb { D with nx := Pv (j + 1), ct := Pv (j + 1), bk := D.nx } σ2 H2) (hd : ∀ σ' H', Pv xs.length σ' H' → D.nx σ' H') :
    tFor (fun σ H R => iList K (tVar i) σ H R ∨ iTup K (tVar i) σ H R) g tb D σ H := by
  rcases hq with hq | hq
  · exact .inl ⟨_, hv, a, rfl, ⟨_, (hl 0 σ H h0).seq hq⟩, for_list Pv h0 (fun j σ' H' _ p => (hl j σ' H' p).seq hq) hs hd⟩
  · exact .inr ⟨_, hv, a, rfl, ⟨_, same_sqT (hl 0 σ H h0) hq⟩, for_tup Pv h0 (fun j σ' H' _ p => same_sqT (hl j σ' H' p) hq) hs hd⟩
section
variable {P : Program} {w : World} {K : PySem.W.Frag} {mg : Str → Option Value} {base : Heap}
/-! ### _law_rows -/
theorem sc_law_rows : FnScope ["_law_picture_here", "_law_row"] ["_law_picture_here"] (defScope s_law_rows) := ⟨rfl, rfl, rfl, by decide +kernel, rfl, by decide +kernel, by decide +kernel⟩
def spLRows (K : PySem.W.Frag) : Sp := fun vs H Q _ => ∃ (v : V) (n : Nat) (t : T), vs = [v] ∧ n ≤ 3 ∧ T.ok n t ∧ Dp K H v (pd n t) ∧
  ∀ H' l xs, Same H H' → SqT K H' l xs → RwT K H' (rows n t) xs → Q (.ref l) H'
theorem h_law_rows (tx : Tx K mg) : Has P w K mg base CX0 5 "_law_rows" ["_law_picture_here"] (spLRows K) := by
  obtain ⟨fd, F⟩ := tx.fn_law_rows
  refine has_n (st := s_law_rows) F tx.g_law_rows sc_law_rows (fun _ _ _ _ _ _ us hl => match us, hl with | [_], _ => rfl) (fun vs H Q E h => ?_) (fun cdv A outer s H vs Q E hr h => ?_)
  · obtain ⟨v, n, t, rfl, _⟩ := h
    rfl
  · obtain ⟨v, n, t, rfl, hn, ok, hd, kq⟩ := h
    have nd := sc_law_rows.nd
    refine ⟨_, pss_one (ps_ret (pe_callTy call_tuple_of (by rfl) tx.z_tuple b_tuple (pa_cons (pe_lc (own := [("_law_row", 1)]) (g := gName 1) (tt := tYes) rfl nd (pi_list (pe_h0 (h_law_rows_of tx 3) hr (pa_cons (pe_ix ix_tup (pv 0) pe_int (fun _ _ => rfl)) (pa_cons (pe_ix ix_tup (pv 0) pe_int (fun _ _ => rfl)) pa_nil))))
      (blkOk_by (N := ["_law_picture_here", "_law_row"]) (sc := defScope s_law_rows) (by decide +kernel))
        (fun _ _ _ _ _ => pg_name (i := 1) nd rfl (Or.inl rfl)) (fun _ _ _ _ _ => pts_nil) (fun _ _ _ _ _ => pe_callTy (r := fun xs H Q => ∃ p ys, xs = [.ref p] ∧ ((SqL K H p ys ∧ ∀ l, H l = none → Q (.ref l) (upd H l (.tup ys))) ∨ (SqT K H p ys ∧ Q (.ref p) H))) call_tuple_of (by rfl) tx.z_tuple b_tuple (pa_cons (pv 1) pa_nil))) pa_nil))), ?_⟩
    obtain ⟨p, u, rfl, hs, hu⟩ := dp_pd hd
    refine ⟨_, rfl, p, _, _, V.int n, rfl, rfl, hs, rfl, _, rfl, p, _, _, u, rfl, rfl, hs, rfl, u, t, n, rfl, hn, by decide, ok, hu, fun H1 l xs s1 hl hl1 hw => ?_⟩
    have h8 : (rows n t).length ≤ 8 := by
      rw [rows_length]
      exact pow_le8 hn
    refine ⟨l, rfl, ⟨xs, SqL.of hl1⟩, fun D hD => ?_⟩
    have hz : xs.length ≤ 1000 := by
      rw [hw.1]
      exact Nat.le_trans h8 (by decide)
    refine lc_listR (K := K) (xs := xs) (te := tCB (fun xs H Q => ∃ p ys, xs = [.ref p] ∧ ((SqL K H p ys ∧ ∀ l, H l = none → Q (.ref l) (upd H l (.tup ys))) ∨ (SqT K H p ys ∧ Q (.ref p) H))) (tCons (tVar 1) tNil)) (fun j y H' => ∃ p r, y = .ref p ∧ (rows n t)[j]? = some r ∧ SqT K H' p (r.map V.int)) (fun j y H1 H2 acc e b ⟨p, r, e1, e2, e3⟩ => ⟨p, r, e1, e2, but_sqT e b e3⟩) hD (SqL.of hl1) hz (fun _ => rfl) ?_ ?_
    · intro j x H2 Q' hx s2 kq'
      obtain ⟨pr, r, g1, g2, _, g3⟩ := hw.get (j := j) (by rw [← hw.1]; exact (List.getElem?_eq_some_iff.mp hx).1)
      rw [hx] at g1
      cases g1
      have hp2 := s2 _ _ g3
      have fin : ∀ r2, H2 r2 = none → Q' (.ref r2) (upd H2 r2 (.tup (r.map V.int))) := fun r2 hr2 => kq' _ _ (same_upd hr2) ⟨r2, r, rfl, g2, SqT.of upd_same⟩
      refine ⟨.ref pr, rfl, ?_⟩
      refine ⟨pr, r.map V.int, rfl, ?_⟩
      exact .inl ⟨SqL.of hp2, fin⟩
    · intro ys H2 s2 hy hl2 hR
      refine ⟨D, _, rfl, .inl ⟨SqL.of hy, fun r hr2 => kq _ r ys (fun b o z => same_upd hr2 b o (s2 b o (s1 b o z))) (SqT.of upd_same) ⟨by rw [hl2, hw.1], fun j x r' e1 e2 => ?_⟩⟩⟩
      obtain ⟨pr, r'', g1, g2, g3⟩ := hR j x e1
      rw [g2] at e2
      cases e2
      exact ⟨pr, g1, same_sqT (same_upd hr2) g3⟩
end
end Ff
set_option Elab.async false
set_option linter.all false
set_option maxRecDepth 100000
set_option maxHeartbeats 2000000
namespace Ff
open PySem PySem.Spec PyProof.Rows L2
/-- the parts of rows, in their order -/
def lq (n : Nat) (rs : List (List Int)) (j : Nat) : T := least n (part (2 ^ n) rs (sel j 0 (2 ^ n) 0 (2 ^ n)) (sel j 0 0 (2 ^ n) (2 ^ n)))
theorem part_len {k : Nat} {rs : List (List Int)} {left top : Nat} (h : top + k ≤ rs.length) : (part k rs left top).length = k := by
  unfold part
  rw [List.length_map, List.length_take, List.length_drop]
  omega
theorem part_wide {k N : Nat} {rs : List (List Int)} {left top : Nat} (hw : ∀ r ∈ rs, r.length = N) (h : left + k ≤ N) : ∀ r ∈ part k rs left top, r.length = k := fun r hr => by
  obtain ⟨r0, h0, rfl⟩ := List.mem_map.mp hr
  have h1 := hw r0 (List.mem_of_mem_drop (List.mem_of_mem_take h0))
  rw [List.length_take, List.length_drop]
  omega
theorem half_is {n : Nat} : (((2 : Nat) ^ (n + 1) : Nat) : Int) / 2 = ((2 ^ n : Nat) : Int) := by
  have h : 2 ^ (n + 1) = 2 * 2 ^ n := by rw [Nat.pow_succ]; omega
  rw [h]
  omega
theorem sel2 {i k : Nat} (hi : i < 2) (hk : k < 2) (h : Nat) : sel (2 * i + k) 0 h 0 h = sel k 0 h 0 0 ∧ sel (2 * i + k) 0 0 h h = sel i 0 h 0 0 := by
  match i, hi, k, hk with
  | 0, _, 0, _ => exact ⟨rfl, rfl⟩
  | 0, _, 1, _ => exact ⟨rfl, rfl⟩
  | 1, _, 0, _ => exact ⟨rfl, rfl⟩
  | 1, _, 1, _ => exact ⟨rfl, rfl⟩
theorem get2 {x : V} {h i : Nat} (e : ([V.int 0, .int (h : Nat)] : List V)[i]? = some x) : i < 2 ∧ x = .int ((sel i 0 h 0 0 : Nat) : Int) := by
  match i, e with
  | 0, e => cases e; exact ⟨by decide, rfl⟩
  | 1, e => cases e; exact ⟨by decide, rfl⟩
theorem sel_le {i h : Nat} (hi : i < 2) : sel i 0 h 0 0 ≤ h := by
  match i, hi with
  | 0, _ => exact Nat.zero_le _
  | 1, _ => exact Nat.le_refl _
theorem flat_at {rs : List (List Int)} {i : Nat} {r : List Int} (h : rs[i]? = some r) : (rs.take (i + 1)).flatten = (rs.take i).flatten ++ r := by
  rw [List.take_add_one, h, List.flatten_append]
  simp
theorem flat_map (rs : List (List Int)) (r : List Int) (i : Nat) (h : rs[i]? = some r) : ((rs.take i).flatten.map V.int) ++ r.map V.int = (rs.take (i + 1)).flatten.map V.int := by
  rw [flat_at h, List.map_append]
theorem take_flat_le {rs : List (List Int)} {i N : Nat} (hl : rs.length ≤ 8) (hN : N ≤ 8) (hw : ∀ r ∈ rs, r.length = N) : (rs.take i).flatten.length ≤ 64 := by
  have z := flat_len (k := 8) (rs := rs.take i) fun r hr => by
    rw [hw r (List.mem_of_mem_take hr)]
    exact hN
  rw [List.length_take] at z
  omega
theorem flat_pos {rs : List (List Int)} {n : Nat} (hl : rs.length = 2 ^ n) (hw : ∀ r ∈ rs, r.length = 2 ^ n) : rs.flatten ≠ [] := by
  have p := pow_pos' n
  cases rs with
  | nil => simp only [List.length_nil] at hl; omega
  | cons r rs =>
    have hr := hw r List.mem_cons_self
    cases r with
    | nil => simp only [List.length_nil] at hr; omega
    | cons x r' => simp
theorem head_at {l : List Int} (h : l ≠ []) : (l.map V.int)[0]? = some (.int (l.headD 0)) := by
  cases l with
  | nil => exact absurd rfl h
  | cons a b => rfl
theorem least_uni {m : Nat} {rs : List (List Int)} (u : uni rs.flatten = true) : least m rs = .leaf (rs.flatten.headD 0) := by
  cases m with
  | zero => rfl
  | succ m => exact if_pos u
theorem least_zero {rs : List (List Int)} (hl : rs.length = 1) (hw : ∀ r ∈ rs, r.length = 1) : uni rs.flatten = true := by
  match rs, hl, hw with
  | [r], _, hw =>
    have hr := hw r List.mem_cons_self
    match r, hr with
    | [x], _ => simp [uni]
section
variable {P : Program} {w : World} {K : PySem.W.Frag} {mg : Str → Option Value} {base : Heap}
/-! ### _law_least -/
theorem sc_law_least : FnScope ["_law_rows_here", "_law_worths", "_law_row", "_law_half", "_law_parts", "_law_top", "_law_left"] ["_law_rows_here"] (defScope s_law_least) := ⟨rfl, rfl, rfl, by decide +kernel, rfl, by decide +kernel, by decide +kernel⟩
def spLeast (K : PySem.W.Frag) (m : Nat) : Sp := fun vs H Q _ => ∃ (a : Addr) (xs : List V) (rs : List (List Int)), vs = [.ref a] ∧ (SqL K H a xs ∨ SqT K H a xs) ∧ RwT K H rs xs ∧ m ≤ 3 ∧ rs.length = 2 ^ m ∧ (∀ r ∈ rs, r.length = 2 ^ m) ∧
  ∀ H' v', Same H H' → Dp K H' v' (least m rs).d → Q v' H'
def tRowCut (K : PySem.W.Frag) : TE := tSl (rSlT K) (tVar 2) (tPart (tVar 6)) (tPart (tOp (rI0 fun i j => .int (i + j)) (tVar 6) (tVar 3)))
theorem t_cutRows {H : Hp} {a : Addr} {xs : List V} {rs : List (List Int)} {top left k : Nat} {Q : VK} {o1 o2 o4 : Option V} (hq : SqL K H a xs ∨ SqT K H a xs) (hw : RwT K H rs xs) (hl : top + k ≤ rs.length) (hl2 : k < rs.length) (hk : k ≤ 8)
    (hwd : ∀ r ∈ rs, left + k ≤ r.length ∧ k < r.length) (hd : ∀ D ys H', Same H H' → SqL K H' D ys → RwT K H' (part k rs left top) ys → Q (.ref D) H') :
    tLc (fun σ H R => iList K (tSl (rSlL K) (tVar 0) (tPart (tVar 5)) (tPart (tOp (rI0 fun i j => .int (i + j)) (tVar 5) (tVar 3)))) σ H R ∨ iTup K (tSl (rSlT K) (tVar 0) (tPart (tVar 5)) (tPart (tOp (rI0 fun i j => .int (i + j)) (tVar 5) (tVar 3)))) σ H R)
      (gName 2) tYes (tRowCut K) [2] [some (.ref a), o1, o2, some (.int (k : Nat)), o4, some (.int (top : Nat)), some (.int (left : Nat))] H Q := by
  have hx : top + k ≤ xs.length := by rw [hw.1]; exact hl
  have turn : ∀ (H1 : Hp), Same H H1 → ∀ (j : Nat) (x : V) (H' : Hp) (Q' : VK), ((xs.drop top).take k)[j]? = some x → Same H1 H' → (∀ y H'', Same H' H'' → (∃ (p : Addr) (r : List Int), y = .ref p ∧ (part k rs left top)[j]? = some r ∧ SqT K H'' p (r.map V.int)) → Q' y H'') →
      tRowCut K [some (.ref a), o1, some x, some (.int (k : Nat)), o4, some (.int (top : Nat)), some (.int (left : Nat))] H' Q' := by
    intro H1 s1 j x H' Q' hxj s2 kq
    have hj : j < ((rs.drop top).take k).length := by
      have z := (List.getElem?_eq_some_iff.mp hxj).1
      rw [(hw.cut top k).1] at z
      exact z
    obtain ⟨p, r, g1, g2, g3⟩ := (hw.cut top k).get hj
    rw [hxj] at g1
    cases g1
    have hr := hwd r (List.mem_of_mem_drop (List.mem_of_mem_take (List.mem_of_getElem? g2)))
    have s12 := Same.trans s1 s2
    refine ⟨_, rfl, _, rfl, _, rfl, _, rfl, _, rfl, _, _, rfl, rfl, _, rfl, p, r.map V.int, rfl, same_sqT s12 g3, ?_, fun pn hpn => kq _ _ (same_upd hpn) ⟨pn, (r.drop left).take k, rfl, ?_, ?_⟩⟩
    · exact cut_not (by rw [List.length_map]; exact hr.1) (by rw [List.length_map]; exact hr.2)
    · unfold part
      rw [List.getElem?_map, g2]
      rfl
    · rw [cut_at (by rw [List.length_map]; exact hr.1), ← List.map_drop, ← List.map_take]
      exact SqT.of upd_same
  have done : ∀ (H1 : Hp), Same H H1 → ∀ (D : Addr) (ys : List V) (H' : Hp), Same H1 H' → H' D = some (.lst ys) → ys.length = ((xs.drop top).take k).length → (∀ (j : Nat) (y : V), ys[j]? = some y → ∃ (p : Addr) (r : List Int), y = .ref p ∧ (part k rs left top)[j]? = some r ∧ SqT K H' p (r.map V.int)) → Q (.ref D) H' := by
    intro H1 s1 D ys H' s2 hy hyl hR
    refine hd D ys H' (Same.trans s1 s2) (SqL.of hy) ⟨?_, fun j y r e1 e2 => ?_⟩
    · rw [hyl, part_len hl, List.length_take, List.length_drop]
      omega
    · obtain ⟨p, r', f1, f2, f3⟩ := hR j y e1
      rw [f2] at e2
      cases e2
      exact ⟨p, f1, f3⟩
  have hz : ((xs.drop top).take k).length ≤ 1000 := by
    rw [List.length_take]
    omega
  rcases hq with hq | hq
  · refine .inl ⟨_, rfl, _, rfl, _, rfl, _, rfl, _, rfl, _, _, rfl, rfl, _, rfl, a, xs, rfl, hq, fun p hp => ?_⟩
    rw [cut_at hx]
    refine ⟨p, rfl, ⟨_, SqL.of upd_same⟩, fun D hD => ?_⟩
    exact lc_listR (K := K) (te := tRowCut K) (xs := (xs.drop top).take k) (fun j y H' => ∃ (p : Addr) (r : List Int), y = .ref p ∧ (part k rs left top)[j]? = some r ∧ SqT K H' p (r.map V.int)) (fun j y H1 H2 acc e b ⟨p, r, e1, e2, e3⟩ => ⟨p, r, e1, e2, but_sqT e b e3⟩) hD (SqL.of upd_same) hz (fun _ => rfl)
      (fun j x H' Q' h1 h2 h3 => turn _ (same_upd hp) j x H' Q' h1 h2 h3) (fun ys H' h1 h2 h3 h4 => done _ (same_upd hp) D ys H' h1 h2 h3 h4)
  · refine .inr ⟨_, rfl, _, rfl, _, rfl, _, rfl, _, rfl, _, _, rfl, rfl, _, rfl, a, xs, rfl, hq, ?_, fun p hp => ?_⟩
    · exact cut_not hx (by rw [hw.1]; exact hl2)
    rw [cut_at hx]
    refine ⟨p, rfl, ⟨_, SqT.of upd_same⟩, fun D hD => ?_⟩
    exact lc_tupR (K := K) (te := tRowCut K) (xs := (xs.drop top).take k) (fun j y H' => ∃ (p : Addr) (r : List Int), y = .ref p ∧ (part k rs left top)[j]? = some r ∧ SqT K H' p (r.map V.int)) (fun j y H1 H2 acc e b ⟨p, r, e1, e2, e3⟩ => ⟨p, r, e1, e2, but_sqT e b e3⟩) hD (SqT.of upd_same) hz (fun _ => rfl)
      (fun j x H' Q' h1 h2 h3 => turn _ (same_upd hp) j x H' Q' h1 h2 h3) (fun ys H' h1 h2 h3 h4 => done _ (same_upd hp) D ys H' h1 h2 h3 h4)
theorem tCons_arg {te : TE} {t : TA} {σ : L2.St} {H : Hp} {Q : List V → Hp → Prop} (h : te σ H fun x H1 => t σ H1 fun xs H2 => Q (x :: xs) H2) : tCons te t σ H Q := h
theorem tCall_one {sp : Sp} {E : XK} {te : TE} {σ : L2.St} {H : Hp} {Q : VK} (h : te σ H fun x H1 => sp [x] H1 Q E) : tCall sp [] E (tCons te tNil) σ H Q := h
theorem st_law_least (tx : Tx K mg) (m : Nat) (IH : Has P w K mg base CX0 (m + 0) "_law_least" ["_law_rows_here"] (dn (spLeast K) m)) : Has P w K mg base CX0 (m + 0 + 1) "_law_least" ["_law_rows_here"] (spLeast K m) := by
  obtain ⟨fd, F⟩ := tx.fn_law_least
  refine has_n (st := s_law_least) F tx.g_law_least sc_law_least (fun _ _ _ _ _ _ us hl => match us, hl with | [_], _ => rfl) (fun vs H Q E h => ?_) (fun cdv A outer s H vs Q E hr h => ?_)
  · obtain ⟨a, xs, rs, rfl, _⟩ := h
    rfl
  · obtain ⟨a, xs, rs, rfl, hq, hw, hm, hl, hwd, kq⟩ := h
    have nd := sc_law_least.nd
    refine ⟨_, pss_cons (ps_set (i := 1) nd rfl (Or.inl rfl) (pe_lst pa_nil))
      (pss_cons (ps_for PassesOwn.never rfl (pi_or (pi_list (pv 0)) (pi_tup (pv 0))) (pg_name (i := 2) nd rfl (Or.inl rfl))
        (pss_one (ps_expr (pe_bm PySem.F.plainAttrs_list PySem.F.slot_list_extend PySem.F.type_list_extend mt_extendT (pv 1) (pa_cons (pv 2) pa_nil)))))
      (pss_cons (ps_if (pt_cmpR op_eq (pe_lenSet (by rfl) tx.z_len (by rfl) tx.z_set (pv 1)) pe_int (nomark _)) (pss_one (ps_ret (pe_ix ix_list (pv 1) pe_int (fun _ _ => rfl)))) pss_nil)
      (pss_cons (ps_set (i := 3) nd rfl (Or.inr rfl) (pe_op op_fdiv (pe_callB call_len_seq (by rfl) tx.z_len b_len (pa_cons (pv 0) pa_nil)) pe_int))
      (pss_cons (ps_set (i := 4) nd rfl (Or.inl rfl) (pe_lst pa_nil))
      (pss_cons (ps_for PassesOwn.never rfl (pi_tup (pe_tup (pa_cons pe_int (pa_cons (pv 3) pa_nil)))) (pg_name (i := 5) nd rfl (Or.inl rfl))
        (pss_one (ps_for PassesOwn.never rfl (pi_tup (pe_tup (pa_cons pe_int (pa_cons (pv 3) pa_nil)))) (pg_name (i := 6) nd rfl (Or.inr rfl))
          (pss_one (ps_expr (pe_bm PySem.F.plainAttrs_list PySem.F.slot_list_append PySem.F.type_list_append mt_append (pv 4) (pa_cons
            (pe_h0 IH hr (pa_cons (pe_lc (own := [("_law_row", 2)]) (g := gName 2) (tt := tYes) rfl nd
              (pi_or (pi_list (pe_slice (r := rSlL K) sl_list (pv 0) (po_some (pv 5)) (po_some (pe_op op_add (pv 5) (pv 3))))) (pi_tup (pe_slice (r := rSlT K) sl_tup (pv 0) (po_some (pv 5)) (po_some (pe_op op_add (pv 5) (pv 3))))))
              (blkOk_by (N := ["_law_rows_here", "_law_worths", "_law_row", "_law_half", "_law_parts", "_law_top", "_law_left"]) (sc := defScope s_law_least) (by decide +kernel))
              (fun _ _ _ _ _ => pg_name (i := 2) nd rfl (Or.inl rfl)) (fun _ _ _ _ _ => pts_nil)
              (fun _ _ _ _ _ => pe_slice (r := rSlT K) sl_tup (pv 2) (po_some (pv 6)) (po_some (pe_op op_add (pv 6) (pv 3))))) pa_nil)) pa_nil)))))))
      (pss_one (ps_ret (pe_callTy call_tuple_of (by rfl) tx.z_tuple b_tuple (pa_cons (pv 4) pa_nil))))))))), ?_⟩
    have h8 := pow_le8 hm
    refine ⟨(by show 0 ≤ sizeLine; exact Nat.zero_le _), fun L hL => ?_⟩
    have s1 := same_upd (o := .lst []) hL
    have hN : 2 ^ m ≤ 8 := h8
    refine for_seqV (xs := xs) (H0 := H) rfl hq (fun i σ H' => ∃ (o2 : Option V), σ = [some (.ref a), some (.ref L), o2, none, none, none, none] ∧ Same H H' ∧ H' L = some (.lst ((rs.take i).flatten.map V.int))) ?_ ?_ ?_ ?_
    · exact ⟨none, rfl, s1, upd_same⟩
    · rintro j σ' H' ⟨o2, _, z, _⟩
      exact z
    · rintro i x σ' H' hx ⟨o2, rfl, sH, hL'⟩
      obtain ⟨p, r, g1, g2, g3⟩ := hw.get (j := i) (by rw [← hw.1]; exact (List.getElem?_eq_some_iff.mp hx).1)
      rw [hx] at g1
      cases g1
      have hs : sizeLine = 16777216 := sizeLine_eq
      refine ⟨_, rfl, .inl ⟨rfl, _, SqL.of hL'⟩, _, rfl, L, p, _, _, rfl, rfl, hL', same_sqT sH g3, ?_, ?_⟩
      · have z1 := take_flat_le (i := i) (by rw [hl]; exact h8) h8 hwd
        have z2 := hwd r (List.mem_of_getElem? g2)
        rw [List.length_map, List.length_map]
        omega
      · refine ⟨_, rfl, fun c o z => ?_, ?_⟩
        · rw [upd_ne (ne_of_none z hL)]
          exact sH _ _ z
        · rw [flat_map rs r i g2]
          exact upd_same
    · rintro σ' H' ⟨o2, rfl, sH, hL'⟩
      rw [List.take_of_length_le (by rw [hw.1]; exact Nat.le_refl _)] at hL'
      have hf := flat_pos hl hwd
      have hfl := take_flat_le (i := rs.length) (by rw [hl]; exact h8) h8 hwd
      rw [List.take_of_length_le (Nat.le_refl _)] at hfl
      refine ⟨_, rfl, L, rs.flatten, rfl, SqL.of hL', by omega, rfl, _, rfl, ?_⟩
      by_cases u : uni rs.flatten = true
      · have e : decide (V.int (((PyProof.Rows.firstMet (fun i => rs.flatten.getD i 0) rs.flatten.length).length : Nat) : Int) = V.int 1) = true := decide_eq_true (by rw [set_one hf u]; rfl)
        rw [e]
        have el : least m rs = .leaf (rs.flatten.headD 0) := least_uni u
        refine iteT ⟨_, rfl, L, _, _, .int (rs.flatten.headD 0), rfl, rfl, SqL.of hL', atI_nat (j := 0) (head_at hf), kq _ _ sH ?_⟩
        rw [el]
        exact .int _
      · have e : decide (V.int (((PyProof.Rows.firstMet (fun i => rs.flatten.getD i 0) rs.flatten.length).length : Nat) : Int) = V.int 1) = false := decide_eq_false (fun z => u (set_uni (by
          injection z with z
          omega)))
        rw [e]
        refine iteF ?_
        cases m with
        | zero => exact absurd (least_zero hl hwd) u
        | succ n =>
          have hp2 : 2 ^ (n + 1) = 2 ^ n + 2 ^ n := by rw [Nat.pow_succ]; omega
          have hpp := pow_pos' n
          have hxl : ((xs.length : Nat) : Int) / 2 = ((2 ^ n : Nat) : Int) := by
            rw [hw.1, hl]
            exact half_is
          refine ⟨_, rfl, a, xs, rfl, hq.imp sH.seq (same_sqT sH), _, _, rfl, rfl, ⟨by decide, by decide⟩, ?_⟩
          refine ⟨(by show 0 ≤ sizeLine; exact Nat.zero_le _), fun LP hL2 => ?_⟩
          have sL2 := same_upd (o := .lst []) hL2
          have eσ : ([some (V.ref a), some (.ref L), o2, none, none, none, none] : L2.St).set 3 (some (V.int (((xs.length : Nat) : Int) / 2))) = [some (.ref a), some (.ref L), o2, some (.int ((2 ^ n : Nat) : Int)), none, none, none] := by
            rw [hxl]
            rfl
          show tSeq _ _ _ (List.set (List.set [some (V.ref a), some (.ref L), o2, none, none, none, none] 3 (some (V.int (((xs.length : Nat) : Int) / 2)))) 4 (some (V.ref LP))) _
          rw [eσ]
          refine ⟨_, rfl, (by show 2 ≤ sizeLine; decide), fun t1 ht1 => ?_⟩
          have sT1 := same_upd (o := .tup [.int 0, .int ((2 ^ n : Nat) : Int)]) ht1
          refine ⟨t1, rfl, ⟨_, SqT.of upd_same⟩, for_tup (K := K) (xs := [.int 0, .int ((2 ^ n : Nat) : Int)]) (fun i σ H2 => ∃ (q2 o5 o6 : Option V) (ys : List V), σ = [some (.ref a), some (.ref L), q2, some (.int ((2 ^ n : Nat) : Int)), some (.ref LP), o5, o6] ∧
            Same H' H2 ∧ SqT K H2 t1 [.int 0, .int ((2 ^ n : Nat) : Int)] ∧ H2 LP = some (.lst ys) ∧ ys.length = 2 * i ∧ ∀ j y, ys[j]? = some y → Dp K H2 y (lq n rs j).d) ?_ (fun i σ H2 _ ⟨_, _, _, _, _, _, z, _⟩ => z) ?_ ?_⟩
          · exact ⟨o2, none, none, [], rfl, Same.trans sL2 sT1, SqT.of upd_same, sT1 _ _ upd_same, rfl, fun j y z => by simp at z⟩
          · rintro i x σ H2 hx ⟨q2, o5, o6, ys, rfl, s2, hT1, hL2', hyl, hR⟩
            obtain ⟨hi, rfl⟩ := get2 hx
            have ti := sel_le (h := 2 ^ n) hi
            refine ⟨_, rfl, (by show 2 ≤ sizeLine; decide), fun t2 ht2 => ?_⟩
            have sT2 := same_upd (o := .tup [.int 0, .int ((2 ^ n : Nat) : Int)]) ht2
            refine ⟨t2, rfl, ⟨_, SqT.of upd_same⟩, for_tup (K := K) (xs := [.int 0, .int ((2 ^ n : Nat) : Int)]) (fun k σ H3 => ∃ (q2 o6 : Option V) (ys : List V), σ = [some (.ref a), some (.ref L), q2, some (.int ((2 ^ n : Nat) : Int)), some (.ref LP), some (.int ((sel i 0 (2 ^ n) 0 0 : Nat) : Int)), o6] ∧
              Same H' H3 ∧ SqT K H3 t1 [.int 0, .int ((2 ^ n : Nat) : Int)] ∧ SqT K H3 t2 [.int 0, .int ((2 ^ n : Nat) : Int)] ∧ H3 LP = some (.lst ys) ∧ ys.length = 2 * i + k ∧ ∀ j y, ys[j]? = some y → Dp K H3 y (lq n rs j).d) ?_ (fun i σ H2 _ ⟨_, _, _, _, _, _, z, _⟩ => z) ?_ ?_⟩
            · exact ⟨q2, o6, ys, rfl, Same.trans s2 sT2, same_sqT sT2 hT1, SqT.of upd_same, sT2 _ _ hL2', hyl, fun j y z => dp_same sT2 (hR j y z)⟩
            · rintro k x σ H3 hx ⟨q2, o6, ys, rfl, s3, hT1, hT2, hL2', hyl, hR⟩
              obtain ⟨hk, rfl⟩ := get2 hx
              have tk := sel_le (h := 2 ^ n) hk
              refine ⟨_, rfl, .inl ⟨rfl, _, SqL.of hL2'⟩, ?_⟩
              have sH3 := Same.trans sH s3
              refine tCons_arg (tCall_one ?_)
              refine t_cutRows (xs := xs) (rs := rs) (k := 2 ^ n) (top := sel i 0 (2 ^ n) 0 0) (left := sel k 0 (2 ^ n) 0 0) (hq.imp sH3.seq (same_sqT sH3)) (hw.same sH3) (by omega) (by omega) (by omega) (fun r hr => by
                have z := hwd r hr
                omega) fun D zs H4 s4 hD4 hw4 => ?_
              have pl : (part (2 ^ n) rs (sel k 0 (2 ^ n) 0 0) (sel i 0 (2 ^ n) 0 0)).length = 2 ^ n := part_len (by omega)
              have pw : ∀ r ∈ part (2 ^ n) rs (sel k 0 (2 ^ n) 0 0) (sel i 0 (2 ^ n) 0 0), r.length = 2 ^ n := part_wide hwd (by omega)
              refine ⟨D, zs, part (2 ^ n) rs (sel k 0 (2 ^ n) 0 0) (sel i 0 (2 ^ n) 0 0), rfl, .inl hD4, hw4, by omega, pl, pw, fun H5 v5 s5 d5 => ?_⟩
              have s35 := Same.trans s4 s5
              have hL5 := s35 _ _ hL2'
              refine ⟨LP, ys, v5, rfl, rfl, hL5, (by have hs : sizeLine = 16777216 := sizeLine_eq; omega), ?_⟩
              have e2 := sel2 hi hk (2 ^ n)
              refine ⟨_, _, ys ++ [v5], rfl, fun c o z => ?_, but_sqT hL5 but_upd (same_sqT s35 hT1), but_sqT hL5 but_upd (same_sqT s35 hT2), upd_same, by rw [List.length_append, hyl]; rfl, parts_add hL5 (fun j y z => dp_same s35 (hR j y z)) ?_⟩
              · rw [upd_ne (ne_of_none z hL2)]
                exact s35 _ _ (s3 _ _ z)
              · unfold lq
                rw [hyl, e2.1, e2.2]
                exact d5
            · rintro σ H3 ⟨q2, o6, ys, rfl, s3, hT1, hT2, hL2', hyl, hR⟩
              exact ⟨_, _, _, ys, rfl, s3, hT1, hL2', by rw [hyl]; rfl, hR⟩
          · rintro σ H2 ⟨q2, o5, o6, ys, rfl, s2, hT1, hL2', hyl, hR⟩
            obtain ⟨y0, y1, y2, y3, rfl⟩ := four_of_len hyl
            refine ⟨_, rfl, LP, _, rfl, .inl ⟨SqL.of hL2', fun r hr2 => kq _ _ (fun c o z => same_upd hr2 c o (s2 c o (sH c o z))) ?_⟩⟩
            have st := fun {t : T} {v : V} (z : Dp K H2 v t.d) => dp_same (same_upd (o := .tup [y0, y1, y2, y3]) hr2) z
            have el : least (n + 1) rs = .node (lq n rs 0) (lq n rs 1) (lq n rs 2) (lq n rs 3) := if_neg u
            rw [el]
            exact dp_mk (SqT.of upd_same) (st (hR 0 _ rfl)) (st (hR 1 _ rfl)) (st (hR 2 _ rfl)) (st (hR 3 _ rfl))
theorem h_law_least (tx : Tx K mg) (m : Nat) : Has P w K mg base CX0 (m + 0 + 1) "_law_least" ["_law_rows_here"] (spLeast K m) := by
  obtain ⟨fd, F⟩ := tx.fn_law_least
  exact has_rec (has_false (st := s_law_least) F tx.g_law_least (fun _ _ _ _ _ _ us hl => match us, hl with | [_], _ => rfl)) (fun m => st_law_least tx m) m
end
end Ff
set_option Elab.async false
set_option linter.all false
set_option maxRecDepth 100000
set_option maxHeartbeats 2000000
namespace Ff
open PySem PySem.Spec PyProof.Rows L2
def sides : List V := [.int 1, .int 2, .int 4, .int 8]
theorem sides_ix {n : Nat} (hn : n ≤ 3) : sides[n]? = some (.int ((2 ^ n : Nat) : Int)) ∧ eqV (.int ((2 ^ n : Nat) : Int)) (.int ((2 ^ n : Nat) : Int)) = true ∧ ∀ (m : Nat) (z : V), m < n → sides[m]? = some z → eqV z (.int ((2 ^ n : Nat) : Int)) = false := by
  refine ⟨?_, ?_, fun m z hm e => ?_⟩
  · match n, hn with
    | 0, _ => rfl
    | 1, _ => rfl
    | 2, _ => rfl
    | 3, _ => rfl
  · match n, hn with
    | 0, _ => rfl
    | 1, _ => rfl
    | 2, _ => rfl
    | 3, _ => rfl
  · match n, hn, m, hm, e with
    | 1, _, 0, _, e => cases e; rfl
    | 2, _, 0, _, e => cases e; rfl
    | 2, _, 1, _, e => cases e; rfl
    | 3, _, 0, _, e => cases e; rfl
    | 3, _, 1, _, e => cases e; rfl
    | 3, _, 2, _, e => cases e; rfl
section
variable {P : Program} {w : World} {K : PySem.W.Frag} {mg : Str → Option Value} {base : Heap}
theorem sc_law_of : FnScope ["_law_rows_here"] ["_law_rows_here"] (defScope s_law_of) := ⟨rfl, rfl, rfl, by decide +kernel, rfl, by decide +kernel, by decide +kernel⟩
def spOf (K : PySem.W.Frag) : Sp := fun vs H Q _ => ∃ (a : Addr) (xs : List V) (n : Nat) (t : T), vs = [.ref a] ∧ n ≤ 3 ∧ T.ok n t ∧ SqT K H a xs ∧ RwT K H (rows n t) xs ∧ ∀ H' v', Same H H' → Dp K H' v' (pd n (lean t)) → Q v' H'
theorem h_law_of (tx : Tx K mg) : Has P w K mg base CX0 5 "_law_of" ["_law_rows_here"] (spOf K) := by
  obtain ⟨fd, F⟩ := tx.fn_law_of
  refine has_n (st := s_law_of) F tx.g_law_of sc_law_of (fun _ _ _ _ _ _ us hl => match us, hl with | [_], _ => rfl) (fun vs H Q E h => ?_) (fun cdv A outer s H vs Q E hr h => ?_)
  · obtain ⟨a, xs, n, t, rfl, _⟩ := h
    rfl
  · obtain ⟨a, xs, n, t, rfl, hn, ok, hs, hw, kq⟩ := h
    refine ⟨_, pss_one (ps_ret (pe_tup (pa_cons (pe_bm PySem.F.plainAttrs_list PySem.F.slot_list_index PySem.F.type_list_index mt_index (pe_lst (pa_cons pe_int (pa_cons pe_int (pa_cons pe_int (pa_cons pe_int pa_nil))))) (pa_cons (pe_callB call_len_seq (by rfl) tx.z_len b_len (pa_cons (pv 0) pa_nil)) pa_nil))
      (pa_cons (pe_h0 (h_law_least tx n) (hr.mono (by omega)) (pa_cons (pv 0) pa_nil)) pa_nil)))), ?_⟩
    have hl : xs.length = 2 ^ n := by rw [hw.1, rows_length]
    obtain ⟨i1, i2, i3⟩ := sides_ix hn
    refine ⟨(by show 4 ≤ sizeLine; decide), fun l hl1 => ?_⟩
    have s1 := same_upd (o := .lst sides) hl1
    refine ⟨.inl ⟨rfl, _, SqL.of upd_same⟩, _, rfl, a, xs, rfl, .inr (same_sqT s1 hs), ?_⟩
    rw [hl]
    refine ⟨l, sides, _, n, _, rfl, rfl, SqL.of upd_same, rfl, rfl, i1, i2, i3, ?_⟩
    refine ⟨_, rfl, a, xs, rows n t, rfl, .inr (same_sqT s1 hs), hw.same s1, hn, rows_length n t, rows_wide n t, fun H2 v2 s2 d2 => ?_⟩
    rw [least_rows ok] at d2
    refine ⟨(by show 2 ≤ sizeLine; decide), fun r hr2 => kq _ _ (fun c o z => same_upd hr2 c o (s2 c o (s1 c o z))) (pd_mk (SqT.of upd_same) (dp_same (same_upd hr2) d2))⟩
/-! ### _law_is_tree, _law_is_picture -/
theorem sc_law_is_tree : FnScope ["_law_thing", "_law_size", "_law_part"] ["_law_thing", "_law_size"] (defScope s_law_is_tree) := ⟨rfl, rfl, rfl, by decide +kernel, rfl, by decide +kernel, by decide +kernel⟩
def spLIsTree (K : PySem.W.Frag) (m : Nat) : Sp := fun vs H Q _ => ∃ (v : V) (d : PyData) (n k : Nat), vs = [v, .int n] ∧ n ≤ m ∧ k ≤ 60 ∧ sm k d = true ∧ Dp K H v d ∧ ∀ H', Same H H' → Q (.bl (isT n d)) H'
theorem isT_int (n : Nat) (i : Int) : isT n (.int i) = (decide (0 ≤ i) && decide (i ≤ 9)) := by cases n <;> rfl
theorem isT_noI {n : Nat} {d : PyData} (h : (isI d && !isB d) = false) (hu : isU d = false) : isT n d = false := by
  cases d with
  | tuple ds => cases hu
  | int i => cases h
  | _ => cases n <;> rfl
theorem isT_tup0 (ds : List PyData) : isT 0 (.tuple ds) = false := rfl
theorem isT_tup (n : Nat) (ds : List PyData) : isT (n + 1) (.tuple ds) = (ds.length == 4 && ds.all (isT n)) := rfl
theorem isT_len {n : Nat} {ds : List PyData} (h : ¬ ds.length = 4) : isT n (.tuple ds) = false := by
  cases n with
  | zero => rfl
  | succ n => rw [isT_tup, beq_eq_false_iff_ne.mpr h]; rfl
theorem sm_sub {k : Nat} {ds : List PyData} (h : sm k (.tuple ds) = true) : ∀ d ∈ ds, sm k d = true := by
  cases k with
  | zero => cases h
  | succ k => exact fun d hd => sm_up (sm_all.mp h d hd)
theorem filt_nil {n : Nat} {ds : List PyData} : PyData.eqv (.list (ds.filter fun d => !isT n d)) (.list []) = ds.all (isT n) := by
  cases e : ds.filter (fun d => !isT n d) with
  | nil =>
    have z := List.filter_eq_nil_iff.mp e
    have h : ds.all (isT n) = true := List.all_eq_true.mpr fun d hd => by simpa using z d hd
    rw [h]
    simp [PyData.eqv, PyData.eqvAll]
  | cons a b =>
    have ha : a ∈ ds.filter (fun d => !isT n d) := by rw [e]; exact List.mem_cons_self
    obtain ⟨h1, h2⟩ := List.mem_filter.mp ha
    have h : ds.all (isT n) = false := Bool.eq_false_iff.mpr fun z => by
      rw [List.all_eq_true.mp z a h1] at h2
      cases h2
    rw [h]
    simp [PyData.eqv, PyData.eqvAll]
theorem dpAll_app {K : PySem.W.Frag} {H : Hp} {v : V} {d : PyData} : ∀ {vs : List V} {ds : List PyData}, DpAll K H vs ds → Dp K H v d → DpAll K H (vs ++ [v]) (ds ++ [d])
  | _, _, .nil, h => .cons h .nil
  | _, _, .cons a b, h => .cons a (dpAll_app b h)
theorem filt_step {n i : Nat} {ds : List PyData} {d : PyData} (h : ds[i]? = some d) : (ds.take (i + 1)).filter (fun d => !isT n d) = (ds.take i).filter (fun d => !isT n d) ++ (if (!isT n d) = true then [d] else []) := by
  rw [List.take_add_one, h, List.filter_append]
  congr 1
  show List.filter _ [d] = _
  rw [List.filter_cons]
  rfl
theorem st_law_is_tree (tx : Tx K mg) (m : Nat) (IH : Has P w K mg base CX0 (m + 0) "_law_is_tree" ["_law_thing", "_law_size"] (dn (spLIsTree K) m)) : Has P w K mg base CX0 (m + 0 + 1) "_law_is_tree" ["_law_thing", "_law_size"] (spLIsTree K m) := by
  obtain ⟨fd, F⟩ := tx.fn_law_is_tree
  refine has_n (st := s_law_is_tree) F tx.g_law_is_tree sc_law_is_tree (fun _ _ _ _ _ _ us hl => match us, hl with | [_, _], _ => rfl) (fun vs H Q E h => ?_) (fun cdv A outer s H vs Q E hr h => ?_)
  · obtain ⟨v, d, n, k, rfl, _⟩ := h
    rfl
  · obtain ⟨v, d, n, k, rfl, hn, hk, hsm, hd, kq⟩ := h
    have nd := sc_law_is_tree.nd
    refine ⟨_, pss_cons (ps_if (PW.pt (pw_and (pt_val (pe_isI tx.z_isinstance tx.z_int (pv 0))) (pw_and1 (pt_not (pt_val (pe_isB tx.z_isinstance tx.z_bool (pv 0))))))) (pss_one (ps_ret (pe_chain op_le op_le pe_int (pv 0) pe_int))) pss_nil)
      (pss_cons (ps_if (PW.pt (pw_or (pt_not (pt_val (pe_isU tx.z_isinstance tx.z_tuple (pv 0)))) (pw_or (pt_cmpR op_ne (pe_callB call_len_seq (by rfl) tx.z_len b_len (pa_cons (pv 0) pa_nil)) pe_int (nomark _)) (pw_or1 (pt_cmpR op_eq (pv 1) pe_int (nomark _)))))) (pss_one (ps_ret pe_bl)) pss_nil)
      (pss_one (ps_ret (pe_cmpR (op_eqD hr.units) (pe_lc (own := [("_law_part", 2)]) (g := gName 2) rfl nd (pi_tup (pv 0)) (blkOk_by (N := ["_law_thing", "_law_size", "_law_part"]) (sc := defScope s_law_is_tree) (by decide +kernel))
        (fun _ _ _ _ _ => pg_name (i := 2) nd rfl (Or.inl rfl)) (fun _ _ _ _ _ => pts_one (pt_not (pt_val (pe_h0 IH hr (pa_cons (pv 2) (pa_cons (pe_op op_sub (pv 1) pe_int) pa_nil)))))) (fun _ _ _ _ _ => pv 2)) (pe_lst pa_nil) (nomark _))))), ?_⟩
    refine ⟨_, rfl, v, d, rfl, hd, _, rfl, ?_⟩
    have no : isT n d = false → Q (.bl false) H := fun e => by
      have z := kq H (Same.refl _)
      rw [e] at z
      exact z
    have rest : (isI d && !isB d) = false → tSeq (tIfS (tOr (tNot (tB (tIs K (tVar 0) "tuple" isU))) (tOr (tTest (tOp rNe (tCB (fun xs H Q => ∃ p ys, xs = [.ref p] ∧ (SqL K H p ys ∨ SqT K H p ys) ∧ Q (.int ys.length) H) (tCons (tVar 0) tNil)) (tC (.int 4)))) (tTest (tOp rEq (tVar 1) (tC (.int 0)))))) (tRet (tC (.bl false))) tNext)
        (tRet (tOp (rEqD K) (tLc (iTup K (tVar 0)) (gName 2) (tNot (tB (tCall (dn (spLIsTree K) m) [] E0 (tCons (tVar 2) (tCons (tOp (rI0 fun i j => .int (i - j)) (tVar 1) (tC (.int 1))) tNil))))) (tVar 2) [2]) (tLst tNil))) { nx := fun _ H' => Q .non H', rt := Q } [some v, some (.int n), none] H := by
      intro hno
      refine ⟨_, rfl, v, d, rfl, hd, _, rfl, ?_⟩
      cases hu : isU d with
      | false => exact iteT (iteT (no (isT_noI hno hu)))
      | true =>
        refine iteF ?_
        cases d with
        | tuple ds =>
          obtain ⟨p, xs, rfl, hs, ha⟩ := dp_tup hd
          have el := dpAll_len ha
          refine ⟨_, rfl, p, xs, rfl, .inr hs, rfl, _, rfl, ?_⟩
          by_cases c4 : ds.length = 4
          · have e4 : (!decide (V.int (xs.length : Nat) = V.int 4)) = false := by
              rw [el, c4]
              rfl
            rw [e4]
            refine iteF ⟨_, rfl, rfl, _, rfl, ?_⟩
            cases n with
            | zero => exact iteT (no rfl)
            | succ n =>
              have e0 : decide (V.int ((n + 1 : Nat) : Int) = V.int 0) = false := decide_eq_false (by
                intro z
                injection z with z
                omega)
              rw [e0]
              obtain ⟨m', rfl⟩ : ∃ m', m = m' + 1 := ⟨m - 1, by omega⟩
              refine iteF ⟨_, rfl, p, rfl, ⟨xs, hs⟩, fun D hD => ?_⟩
              have hs0 : sizeLine = 16777216 := sizeLine_eq
              refine lc_tup (K := K) (a := p) (xs := xs) (fun i H' => Same H H' ∧ ∃ acc, H' D = some (.lst acc) ∧ acc.length ≤ i ∧ DpAll K H acc ((ds.take i).filter fun d => !isT n d)) ⟨same_upd hD, [], upd_same, Nat.le_refl _, .nil⟩ (fun i H' _ z => same_sqT z.1 hs) ?_ ?_
              · rintro i x H' hx ⟨s', acc, hacc, hla, hda⟩
                obtain ⟨d', ed, hd'⟩ := dpAll_get ha hx
                have hi : i < 4 := by
                  have z := (List.getElem?_eq_some_iff.mp hx).1
                  omega
                refine ⟨rfl, _, rfl, _, rfl, _, _, rfl, rfl, x, d', n, k, ?_, by omega, hk, sm_sub hsm d' (List.mem_of_getElem? ed), dp_same s' hd', fun H2 s2 => ⟨_, rfl, ?_⟩⟩
                · show [x, V.int (((n + 1 : Nat) : Int) - 1)] = [x, V.int (n : Int)]
                  have e1 : ((n + 1 : Nat) : Int) - 1 = (n : Int) := by omega
                  rw [e1]
                · have fs := filt_step (n := n) ed
                  have hD2 := s2 _ _ hacc
                  refine ite2 (fun c => ?_) (fun c => ?_)
                  · rw [if_pos c] at fs
                    refine ⟨_, rfl, acc, hD2, by omega, fun b o z => ?_, acc ++ [x], upd_same, by rw [List.length_append]; exact Nat.succ_le_succ hla, ?_⟩
                    · rw [upd_ne (ne_of_none z hD)]
                      exact s2 _ _ (s' _ _ z)
                    · rw [fs]
                      exact dpAll_app hda hd'
                  · rw [if_neg c, List.append_nil] at fs
                    refine ⟨Same.trans s' s2, acc, hD2, Nat.le_succ_of_le hla, ?_⟩
                    rw [fs]
                    exact hda
              · rintro H' ⟨s', acc, hacc, hla, hda⟩
                rw [el, List.take_of_length_le (Nat.le_refl _)] at hda
                refine ⟨(by show 0 ≤ sizeLine; exact Nat.zero_le _), fun l hl => ?_⟩
                have s1 := same_upd (o := .lst []) hl
                have smf : sm (k + 1) (.list (ds.filter fun d => !isT n d)) = true := sm_all.mpr fun e he => sm_sub hsm e (List.mem_filter.mp he).1
                refine ⟨_, _, .lst (SqL.of (s1 _ _ hacc)) (dpAll_same (Same.trans s' s1) hda), .lst (SqL.of upd_same) .nil, sm_shaped smf (by omega), sm_shaped (k := 1) rfl (by decide), ?_⟩
                rw [filt_nil]
                have z := kq _ (Same.trans s' s1)
                rw [isT_tup, c4] at z
                exact z
          · have e4 : (!decide (V.int (xs.length : Nat) = V.int 4)) = true := by
              rw [el]
              have : ¬ V.int (ds.length : Nat) = V.int 4 := by
                intro z
                injection z with z
                omega
              rw [decide_eq_false this]
              rfl
            rw [e4]
            exact iteT (iteT (no (isT_len c4)))
        | _ => cases hu
    cases hi : isI d with
    | false =>
      refine iteF (rest ?_)
      rw [hi]
      rfl
    | true =>
      refine iteT ⟨_, rfl, v, d, rfl, hd, _, rfl, ?_⟩
      cases hb : isB d with
      | true =>
        refine iteF (rest ?_)
        rw [hi, hb]
        rfl
      | false =>
        refine iteT ?_
        obtain ⟨i, rfl⟩ := isI_int hi hb
        cases hd
        have e := isT_int n i
        rw [e] at kq
        refine ⟨_, rfl, _, _, rfl, rfl, _, rfl, ?_⟩
        by_cases c : 0 ≤ i
        · rw [decide_eq_true c] at kq ⊢
          exact iteT ⟨_, _, rfl, rfl, kq H (Same.refl _)⟩
        · rw [decide_eq_false c] at kq ⊢
          exact iteF (kq H (Same.refl _))
theorem h_law_is_tree (tx : Tx K mg) (m : Nat) : Has P w K mg base CX0 (m + 0 + 1) "_law_is_tree" ["_law_thing", "_law_size"] (spLIsTree K m) := by
  obtain ⟨fd, F⟩ := tx.fn_law_is_tree
  exact has_rec (has_false (st := s_law_is_tree) F tx.g_law_is_tree (fun _ _ _ _ _ _ us hl => match us, hl with | [_, _], _ => rfl)) (fun m => st_law_is_tree tx m) m
end
end Ff
set_option Elab.async false
set_option linter.all false
set_option maxRecDepth 100000
set_option maxHeartbeats 2000000
namespace Ff
open PySem PySem.Spec PyProof.Rows L2
section
variable {P : Program} {w : World} {K : PySem.W.Frag} {mg : Str → Option Value} {base : Heap}
theorem sc_law_is_picture : FnScope ["_law_thing"] ["_law_thing"] (defScope s_law_is_picture) := ⟨rfl, rfl, rfl, by decide +kernel, rfl, by decide +kernel, by decide +kernel⟩
def spLIsPic (K : PySem.W.Frag) : Sp := fun vs H Q _ => ∃ (v : V) (d : PyData) (k : Nat), vs = [v] ∧ k ≤ 60 ∧ sm k d = true ∧ Dp K H v d ∧ ∀ H', Same H H' → Q (.bl (isP d)) H'
theorem h_law_is_picture (tx : Tx K mg) : Has P w K mg base CX0 5 "_law_is_picture" ["_law_thing"] (spLIsPic K) := by
  obtain ⟨fd, F⟩ := tx.fn_law_is_picture
  refine has_n (st := s_law_is_picture) F tx.g_law_is_picture sc_law_is_picture (fun _ _ _ _ _ _ us hl => match us, hl with | [_], _ => rfl) (fun vs H Q E h => ?_) (fun cdv A outer s H vs Q E hr h => ?_)
  · obtain ⟨v, d, k, rfl, _⟩ := h
    rfl
  · obtain ⟨v, d, k, rfl, hk, hsm, hd, kq⟩ := h
    refine ⟨_, pss_cons (ps_if (PW.pt (pw_or (pt_not (pt_val (pe_isU tx.z_isinstance tx.z_tuple (pv 0)))) (pw_or (pt_cmpR op_ne (pe_callB call_len_seq (by rfl) tx.z_len b_len (pa_cons (pv 0) pa_nil)) pe_int (nomark _))
        (pw_or (pt_not (pt_val (pe_isI tx.z_isinstance tx.z_int (pe_ix ix_tup (pv 0) pe_int (fun _ _ => rfl))))) (pw_or1 (pt_val (pe_isB tx.z_isinstance tx.z_bool (pe_ix ix_tup (pv 0) pe_int (fun _ _ => rfl))))))))) (pss_one (ps_ret pe_bl)) pss_nil)
      (pss_one (ps_ret (pe_and (pe_chain op_le op_le pe_int (pe_ix ix_tup (pv 0) pe_int (fun _ _ => rfl)) pe_int) (pe_one (pe_h0 (h_law_is_tree tx 3) hr (pa_cons (pe_ix ix_tup (pv 0) pe_int (fun _ _ => rfl)) (pa_cons (pe_ix ix_tup (pv 0) pe_int (fun _ _ => rfl)) pa_nil))))))), ?_⟩
    refine ⟨_, rfl, v, d, rfl, hd, _, rfl, ?_⟩
    have no : isP d = false → Q (.bl false) H := fun e => by
      have z := kq H (Same.refl _)
      rw [e] at z
      exact z
    cases hu : isU d with
    | false => exact iteT (iteT (no (isP_noU hu)))
    | true =>
      refine iteF ?_
      cases d with
      | tuple ds =>
        obtain ⟨p, xs, rfl, hs, ha⟩ := dp_tup hd
        have el := dpAll_len ha
        refine ⟨_, rfl, p, xs, rfl, .inr hs, rfl, _, rfl, ?_⟩
        by_cases c2 : ds.length = 2
        · have e2 : (!decide (V.int (xs.length : Nat) = V.int 2)) = false := by
            rw [el, c2]
            rfl
          rw [e2]
          refine iteF ?_
          match ds, c2, ha, hs, hd, el, hsm with
          | [a, b], _, ha, hs, hd, _, hsm =>
            cases ha with
            | cons ra ha =>
              cases ha with
              | cons rb ha =>
                cases ha
                refine ⟨_, rfl, p, _, _, _, rfl, rfl, hs, rfl, _, _, rfl, ra, _, rfl, ?_⟩
                cases h1 : isI a with
                | false => exact iteT (iteT (no (isP_noI (.inl h1))))
                | true =>
                  refine iteF ⟨_, rfl, p, _, _, _, rfl, rfl, hs, rfl, _, _, rfl, ra, _, rfl, ?_⟩
                  cases h2 : isB a with
                  | true => exact iteT (no (isP_noI (.inr h2)))
                  | false =>
                    refine iteF ?_
                    obtain ⟨n, rfl⟩ := isI_int h1 h2
                    cases ra
                    refine ⟨_, rfl, p, _, _, .int n, rfl, rfl, hs, rfl, _, _, rfl, rfl, _, rfl, ?_⟩
                    have ek := isP_int n b
                    by_cases c3 : 0 ≤ n
                    · rw [decide_eq_true c3] at ek ⊢
                      refine iteT ⟨_, _, rfl, rfl, _, rfl, ?_⟩
                      by_cases c4 : n ≤ 3
                      · rw [decide_eq_true c4]
                        rw [decide_eq_true (show n < 4 by omega)] at ek
                        refine iteT ?_
                        refine ⟨_, rfl, p, _, _, _, rfl, rfl, hs, rfl, _, rfl, p, _, _, .int n, rfl, rfl, hs, rfl, _, b, n.toNat, k, ?_, by omega, hk, sm_sub hsm b (by simp), rb, fun H' s' => ?_⟩
                        · show [_, V.int n] = [_, V.int (n.toNat : Int)]
                          rw [Int.toNat_of_nonneg c3]
                        · have z := kq H' s'
                          rw [ek] at z
                          exact z
                      · rw [decide_eq_false c4]
                        rw [decide_eq_false (show ¬ n < 4 by omega)] at ek
                        exact iteF (no ek)
                    · rw [decide_eq_false c3] at ek ⊢
                      exact iteF ⟨_, rfl, iteF (no ek)⟩
        · have e2 : (!decide (V.int (xs.length : Nat) = V.int 2)) = true := by
            rw [el]
            have : ¬ V.int (ds.length : Nat) = V.int 2 := by
              intro z
              injection z with z
              omega
            rw [decide_eq_false this]
            rfl
          rw [e2]
          exact iteT (iteT (no (isP_no2 c2)))
      | _ => cases hu
end
end Ff
set_option Elab.async false
set_option linter.all false
set_option maxRecDepth 100000
set_option maxHeartbeats 2000000
namespace Ff
open PySem PySem.Spec PyProof.Rows L2
/-! ### places in data -/
/-- narrow data of some depth -/
def br : Nat → PyData → Bool
  | _, .int _ => true
  | m + 1, .tuple ds => decide (ds.length ≤ 4) && ds.all (br m)
  | _, _ => false
theorem br_tup {m : Nat} {ds : List PyData} (h : br m (.tuple ds) = true) : ∃ m', m = m' + 1 ∧ ds.length ≤ 4 ∧ ∀ d ∈ ds, br m' d = true := by
  cases m with
  | zero => cases h
  | succ m =>
    obtain ⟨h1, h2⟩ := Bool.and_eq_true_iff.mp (show (decide (ds.length ≤ 4) && ds.all (br m)) = true from h)
    exact ⟨m, rfl, of_decide_eq_true h1, List.all_eq_true.mp h2⟩
theorem br_int (m : Nat) (i : Int) : br m (.int i) = true := by cases m <;> rfl
theorem br_T : ∀ {n : Nat} {t : T}, T.ok n t → br n t.d = true
  | n, .leaf i, _ => br_int n i
  | 0, .node _ _ _ _, h => h.elim
  | n + 1, .node a b c d, h => by
    show (decide (([a.d, b.d, c.d, d.d] : List PyData).length ≤ 4) && ([a.d, b.d, c.d, d.d] : List PyData).all (br n)) = true
    simp only [List.all_cons, List.all_nil, br_T h.1, br_T h.2.1, br_T h.2.2.1, br_T h.2.2.2]
    rfl
theorem br_pd {n : Nat} {t : T} (h : T.ok n t) : br (n + 1) (pd n t) = true := by
  show (decide (([.int n, t.d] : List PyData).length ≤ 4) && ([.int n, t.d] : List PyData).all (br n)) = true
  simp only [List.all_cons, List.all_nil, br_T h, br_int]
  rfl
theorem br_up : ∀ {m : Nat} {d : PyData}, br m d = true → br (m + 1) d = true := by
  intro m
  induction m with
  | zero =>
    intro d h
    cases d with
    | int i => rfl
    | _ => cases h
  | succ m ih =>
    intro d h
    cases d with
    | int i => rfl
    | tuple ds =>
      obtain ⟨m', e, h1, h2⟩ := br_tup h
      cases e
      exact Bool.and_eq_true_iff.mpr ⟨decide_eq_true h1, List.all_eq_true.mpr fun d hd => ih (h2 d hd)⟩
    | _ => cases h
theorem br_le {m k : Nat} (hk : m ≤ k) {d : PyData} (h : br m d = true) : br k d = true := by
  induction hk with
  | refl => exact h
  | step _ ih => exact br_up ih
def sub : List Nat → PyData → Option PyData
  | [], d => some d
  | k :: ks, .tuple ds => match ds[k]? with
    | some e => sub ks e
    | none => none
  | _ :: _, _ => none
theorem sub_cons {k : Nat} {ks : List Nat} {d e : PyData} (h : sub (k :: ks) d = some e) : ∃ ds d', d = .tuple ds ∧ ds[k]? = some d' ∧ sub ks d' = some e := by
  cases d with
  | tuple ds =>
    cases hk : ds[k]? with
    | none =>
      have z : (match ds[k]? with
        | some e => sub ks e
        | none => none) = some e := h
      rw [hk] at z
      cases z
    | some d' =>
      have z : (match ds[k]? with
        | some e => sub ks e
        | none => none) = some e := h
      rw [hk] at z
      exact ⟨ds, d', rfl, hk, z⟩
  | _ => cases h
theorem sub_mk {k : Nat} {ks : List Nat} {ds : List PyData} {d' e : PyData} (h1 : ds[k]? = some d') (h2 : sub ks d' = some e) : sub (k :: ks) (.tuple ds) = some e := by
  show (match ds[k]? with
    | some e => sub ks e
    | none => none) = some e
  rw [h1]
  exact h2
theorem sub_deep : ∀ {p : List Nat} {m : Nat} {d e : PyData}, br m d = true → sub p d = some e → p.length ≤ m
  | [], _, _, _, _, _ => Nat.zero_le _
  | k :: ks, m, d, e, hb, hs => by
    obtain ⟨ds, d', rfl, h1, h2⟩ := sub_cons hs
    obtain ⟨m', rfl, _, h3⟩ := br_tup hb
    exact Nat.succ_le_succ (sub_deep (h3 d' (List.mem_of_getElem? h1)) h2)
theorem sub_sm : ∀ {p : List Nat} {s : Nat} {d e : PyData}, sm s d = true → sub p d = some e → sm s e = true
  | [], _, _, _, h, hs => by cases hs; exact h
  | k :: ks, s, d, e, h, hs => by
    obtain ⟨ds, d', rfl, h1, h2⟩ := sub_cons hs
    exact sub_sm (sm_sub h d' (List.mem_of_getElem? h1)) h2
def bnd : Nat → Nat
  | 0 => 1
  | m + 1 => 1 + 4 * bnd m
def nsV (p : List Nat) : List V := p.map fun k => V.int (k : Nat)
/-- a path of d -/
def PathAt (K : PySem.W.Frag) (d : PyData) (H : Hp) (x : V) : Prop := ∃ p path e, x = .ref p ∧ SqT K H p (nsV path) ∧ sub path d = some e
theorem PathAt.same {K : PySem.W.Frag} {d : PyData} {H H' : Hp} {x : V} (e : Same H H') (h : PathAt K d H x) : PathAt K d H' x := let ⟨p, path, d', e1, e2, e3⟩ := h; ⟨p, path, d', e1, same_sqT e e2, e3⟩
theorem PathAt.but {K : PySem.W.Frag} {d : PyData} {D : Addr} {H H' : Hp} {acc : List V} {x : V} (hD : H D = some (.lst acc)) (b : But D H H') (h : PathAt K d H x) : PathAt K d H' x := let ⟨p, path, d', e1, e2, e3⟩ := h; ⟨p, path, d', e1, but_sqT hD b e2, e3⟩
theorem t_slA {K : PySem.W.Frag} {H : Hp} {a : Addr} {xs : List V} {lo hi : Option Int} {Q : VK} (h : SqT K H a xs) (k : ∀ q H', Same H H' → SqT K H' q (cutV xs lo hi) → Q (.ref q) H') : rSlA K (.ref a) lo hi H Q := by
  refine ⟨a, xs, rfl, h, fun z => k a H (Same.refl _) ?_, fun _ p hp => k p _ (same_upd hp) (SqT.of upd_same)⟩
  have e : cutV xs lo hi = xs := by
    unfold cutV
    rw [z.1, z.2, List.drop_zero, Nat.sub_zero, List.take_of_length_le (Nat.le_refl _)]
  rw [e]
  exact h
theorem t_catA {K : PySem.W.Frag} {H : Hp} {a b : Addr} {xs ys : List V} {Q : VK} (h : SqT K H a xs) (h2 : SqT K H b ys) (hz : xs.length + ys.length ≤ sizeLine) (k : ∀ q H', Same H H' → SqT K H' q (xs ++ ys) → Q (.ref q) H') : rCatA K (.ref a) (.ref b) H Q := by
  refine ⟨a, b, xs, ys, rfl, rfl, h, h2, hz, fun z => k b H (Same.refl _) ?_, fun _ z => k a H (Same.refl _) ?_, fun _ _ p hp => k p _ (same_upd hp) (SqT.of upd_same)⟩
  · rw [z]
    exact h2
  · rw [z, List.append_nil]
    exact h
theorem cut_to {xs : List V} {k : Nat} (h : k ≤ xs.length) : cutV xs none (some (k : Int)) = xs.take k := by
  unfold cutV
  rw [HT.sIx_nat, Nat.min_eq_left h]
  rfl
theorem cut_from {xs : List V} {k : Nat} {i : Int} (e : i = (k : Int)) (h : k ≤ xs.length) : cutV xs (some i) none = xs.drop k := by
  subst e
  unfold cutV
  rw [HT.sIx_nat, Nat.min_eq_left h]
  show (xs.drop k).take (xs.length - k) = _
  rw [List.take_of_length_le (by rw [List.length_drop]; exact Nat.le_refl _)]
section
variable {P : Program} {w : World} {K : PySem.W.Frag} {mg : Str → Option Value} {base : Heap}
/-! ### _law_places -/
theorem sc_law_places : FnScope ["_law_thing", "_law_made", "_law_k", "_law_place"] ["_law_thing"] (defScope s_law_places) := ⟨rfl, rfl, rfl, by decide +kernel, rfl, by decide +kernel, by decide +kernel⟩
def spPlaces (K : PySem.W.Frag) (m : Nat) : Sp := fun vs H Q _ => ∃ (v : V) (d : PyData), vs = [v] ∧ m ≤ 4 ∧ br m d = true ∧ Dp K H v d ∧
  ∀ H' l xs, Same H H' → H' l = some (.lst xs) → xs ≠ [] → xs.length ≤ bnd m → (∀ x ∈ xs, PathAt K d H' x) → Q (.ref l) H'
theorem bnd_le {m : Nat} (h : m ≤ 4) : bnd m ≤ 341 := by
  match m, h with
  | 0, _ => decide
  | 1, _ => decide
  | 2, _ => decide
  | 3, _ => decide
  | 4, _ => decide
theorem st_law_places (tx : Tx K mg) (m : Nat) (IH : Has P w K mg base CX0 (m + 0) "_law_places" ["_law_thing"] (dn (spPlaces K) m)) : Has P w K mg base CX0 (m + 0 + 1) "_law_places" ["_law_thing"] (spPlaces K m) := by
  obtain ⟨fd, F⟩ := tx.fn_law_places
  refine has_n (st := s_law_places) F tx.g_law_places sc_law_places (fun _ _ _ _ _ _ us hl => match us, hl with | [_], _ => rfl) (fun vs H Q E h => ?_) (fun cdv A outer s H vs Q E hr h => ?_)
  · obtain ⟨v, d, rfl, _⟩ := h
    rfl
  · obtain ⟨v, d, rfl, hm, hb, hd, kq⟩ := h
    have nd := sc_law_places.nd
    have hs0 : sizeLine = 16777216 := sizeLine_eq
    have hbm := bnd_le hm
    refine ⟨_, pss_cons (ps_set (i := 1) nd rfl (Or.inl rfl) (pe_lst (pa_cons (pe_tup pa_nil) pa_nil)))
      (pss_cons (ps_if (pt_val (pe_isU tx.z_isinstance tx.z_tuple (pv 0))) (pss_one (ps_for PassesOwn.never rfl (pi_range1 rfl tx.z_range (pa_cons (pe_callB call_len_seq (by rfl) tx.z_len b_len (pa_cons (pv 0) pa_nil)) pa_nil)) (pg_name (i := 2) nd rfl (Or.inr rfl))
        (pss_one (ps_expr (pe_bm PySem.F.plainAttrs_list PySem.F.slot_list_extend PySem.F.type_list_extend mt_extend (pv 1) (pa_cons
          (pe_lc (own := [("_law_place", 3)]) (g := gName 3) (tt := tYes) rfl nd (pi_list (pe_h0 IH hr (pa_cons (pe_ix ix_tup (pv 0) (pv 2) (fun _ _ => rfl)) pa_nil))) (blkOk_by (N := ["_law_thing", "_law_made", "_law_k", "_law_place"]) (sc := defScope s_law_places) (by decide +kernel))
            (fun _ _ _ _ _ => pg_name (i := 3) nd rfl (Or.inl rfl)) (fun _ _ _ _ _ => pts_nil) (fun _ _ _ _ _ => pe_op (r := rCatA K) op_catA (pe_tup (pa_cons (pv 2) pa_nil)) (pv 3))) pa_nil)))))) pss_nil)
      (pss_one (ps_ret (pv 1)))), ?_⟩
    refine ⟨(by show 0 ≤ sizeLine; exact Nat.zero_le _), fun ep hep => ⟨(by show 1 ≤ sizeLine; omega), fun L hL => ?_⟩⟩
    have s1 := same_upd (o := .tup []) hep
    have s2 := same_upd (o := .lst [.ref ep]) hL
    have s12 := Same.trans s1 s2
    have hLn : H L = none := s1.free hL
    have p0 : ∀ x ∈ ([.ref ep] : List V), PathAt K d (upd (upd H ep (.tup [])) L (.lst [.ref ep])) x := fun x hx => by
      rw [List.mem_singleton.mp hx]
      exact ⟨ep, [], d, rfl, SqT.of (s2 _ _ upd_same), rfl⟩
    refine ⟨_, rfl, v, d, rfl, dp_same s12 hd, _, rfl, ?_⟩
    cases hu : isU d with
    | false =>
      refine iteF ⟨_, rfl, kq _ L _ s12 upd_same (by simp) ?_ p0⟩
      cases m <;> (unfold bnd; simp)
    | true =>
      refine iteT ?_
      cases d with
      | tuple ds =>
        obtain ⟨p, xs, rfl, hs, ha⟩ := dp_tup hd
        have el := dpAll_len ha
        obtain ⟨m', rfl, hl4, hbs⟩ := br_tup hb
        have hbd : bnd (m' + 1) = 1 + 4 * bnd m' := rfl
        refine ⟨_, rfl, p, xs, rfl, .inr (same_sqT s12 hs), (xs.length : Int), rfl, by omega, by omega, for_range (lo := 0) (n := xs.length) (fun i σ H' => ∃ (o2 o3 : Option V) (ys : List V), σ = [some (.ref p), some (.ref L), o2, o3] ∧ Same H H' ∧ H' L = some (.lst ys) ∧ ys ≠ [] ∧
          ys.length ≤ 1 + i * bnd m' ∧ ∀ x ∈ ys, PathAt K (.tuple ds) H' x) ?_ ?_ ?_⟩
        · exact ⟨none, none, _, rfl, s12, upd_same, by simp, by simp, p0⟩
        · rintro i σ H' hi ⟨o2, o3, ys, rfl, sH, hL', hne, hyl, hP⟩
          obtain ⟨d', ed, hd'⟩ := dpAll_get ha (List.getElem?_eq_getElem hi)
          refine ⟨_, rfl, .inl ⟨rfl, _, SqL.of hL'⟩, _, rfl, _, rfl, p, _, _, xs[i], rfl, rfl, same_sqT sH hs, atI_z (List.getElem?_eq_getElem hi), xs[i], d', rfl, by omega, hbs d' (List.mem_of_getElem? ed), dp_same sH hd', fun H2 l zs s2 hl2 hzn hzl hzP => ?_⟩
          have hm4 : bnd m' ≤ 341 := by omega
          refine ⟨l, rfl, ⟨zs, SqL.of hl2⟩, fun D hD => ?_⟩
          refine lc_listR (K := K) (xs := zs) (te := tOp (rCatA K) (tTup (tCons (tVar 2) tNil)) (tVar 3)) (fun j y H' => PathAt K (.tuple ds) H' y) (fun j y H1 H2 acc e b z => z.but e b) hD (SqL.of hl2) (by omega) (fun _ => rfl) ?_ ?_
          · intro j x H3 Q' hx s3 kq'
            obtain ⟨pp, path, e, rfl, hpp, hsub⟩ := (hzP x (List.mem_of_getElem? hx)).same s3
            have hpl := sub_deep (hbs d' (List.mem_of_getElem? ed)) hsub
            refine ⟨_, rfl, (by show 1 ≤ sizeLine; omega), fun q hq => ⟨_, rfl, ?_⟩⟩
            have s4 := same_upd (o := .tup [.int (0 + (i : Int))]) hq
            refine t_catA (SqT.of upd_same) (same_sqT s4 hpp) (by unfold nsV; rw [List.length_map]; simp only [List.length_cons, List.length_nil]; omega) fun q2 H5 s5 h5 => ?_
            refine kq' _ _ (Same.trans s4 s5) ⟨q2, i :: path, e, rfl, ?_, sub_mk ed hsub⟩
            have e0 : nsV (i :: path) = [V.int (0 + (i : Int))] ++ nsV path := by
              rw [Int.zero_add]
              rfl
            rw [e0]
            exact h5
          · intro ws H3 s3 hw3 hwl hR3
            have hL3 := s3 _ _ (s2 _ _ hL')
            have hmul : (i + 1) * bnd m' = i * bnd m' + bnd m' := Nat.succ_mul _ _
            have hmi : i * bnd m' ≤ 4 * bnd m' := Nat.mul_le_mul_right _ (by omega)
            refine ⟨L, D, ys, ws, rfl, rfl, hL3, hw3, by omega, ?_⟩
            refine ⟨_, o3, ys ++ ws, rfl, fun c o z => ?_, upd_same, by simp [hne], by rw [List.length_append]; omega, fun x hx => ?_⟩
            · rw [upd_ne (ne_of_none z hLn)]
              exact s3 _ _ (s2 _ _ (sH _ _ z))
            · refine PathAt.but hL3 but_upd ?_
              rcases List.mem_append.mp hx with hx | hx
              · exact (hP x hx).same (Same.trans s2 s3)
              · obtain ⟨j, hj⟩ := List.getElem?_of_mem hx
                exact hR3 j x hj
        · rintro σ H' ⟨o2, o3, ys, rfl, sH, hL', hne, hyl, hP⟩
          have hmi : xs.length * bnd m' ≤ 4 * bnd m' := Nat.mul_le_mul_right _ (by omega)
          exact ⟨_, rfl, kq H' L ys sH hL' hne (by omega) hP⟩
      | _ => cases hu
theorem h_law_places (tx : Tx K mg) (m : Nat) : Has P w K mg base CX0 (m + 0 + 1) "_law_places" ["_law_thing"] (spPlaces K m) := by
  obtain ⟨fd, F⟩ := tx.fn_law_places
  exact has_rec (has_false (st := s_law_places) F tx.g_law_places (fun _ _ _ _ _ _ us hl => match us, hl with | [_], _ => rfl)) (fun m => st_law_places tx m) m
end
end Ff
set_option Elab.async false
set_option linter.all false
set_option maxRecDepth 100000
set_option maxHeartbeats 2000000
namespace Ff
open PySem PySem.Spec PyProof.Rows L2
theorem t_noPart {σ : L2.St} {H : Hp} {Q : Option Int → Hp → Prop} (h : Q none H) : tNoPart σ H Q := h
theorem dpAll_take {K : PySem.W.Frag} {H : Hp} : ∀ {k : Nat} {vs : List V} {ds : List PyData}, DpAll K H vs ds → DpAll K H (vs.take k) (ds.take k)
  | 0, _, _, _ => .nil
  | _ + 1, _, _, .nil => .nil
  | _ + 1, _, _, .cons a b => .cons a (dpAll_take b)
theorem dpAll_drop {K : PySem.W.Frag} {H : Hp} : ∀ {k : Nat} {vs : List V} {ds : List PyData}, DpAll K H vs ds → DpAll K H (vs.drop k) (ds.drop k)
  | 0, _, _, h => h
  | _ + 1, _, _, .nil => .nil
  | k + 1, _, _, .cons _ b => dpAll_drop (k := k) b
theorem dpAll_cat {K : PySem.W.Frag} {H : Hp} : ∀ {vs : List V} {ds : List PyData} {us : List V} {es : List PyData}, DpAll K H vs ds → DpAll K H us es → DpAll K H (vs ++ us) (ds ++ es)
  | _, _, _, _, .nil, h => h
  | _, _, _, _, .cons a b, h => .cons a (dpAll_cat b h)
theorem nsV_dp {K : PySem.W.Frag} {H : Hp} (p : List Nat) : DpAll K H (nsV p) (p.map fun k => PyData.int (k : Nat)) := by
  induction p with
  | nil => exact .nil
  | cons k ks ih => exact .cons (.int _) ih
theorem nsV_sm (p : List Nat) : sm 1 (.tuple (p.map fun k => PyData.int (k : Nat))) = true := sm_all.mpr fun d hd => by
  obtain ⟨i, _, rfl⟩ := List.mem_map.mp hd
  rfl
theorem nsV_eqv (p : List Nat) : PyData.eqv (.tuple (p.map fun k => PyData.int (k : Nat))) (.tuple []) = decide (p = []) := by
  cases p with
  | nil => simp [PyData.eqv, PyData.eqvAll]
  | cons k ks => simp [PyData.eqv, PyData.eqvAll]
section
variable {P : Program} {w : World} {K : PySem.W.Frag} {mg : Str → Option Value} {base : Heap}
/-! ### _law_there -/
theorem sc_law_there : FnScope ["_law_thing", "_law_place", "_law_k"] ["_law_thing", "_law_place"] (defScope s_law_there) := ⟨rfl, rfl, rfl, by decide +kernel, rfl, by decide +kernel, by decide +kernel⟩
def spThere (K : PySem.W.Frag) : Sp := fun vs H Q _ => ∃ (v : V) (d : PyData) (p : Addr) (path : List Nat) (e : PyData), vs = [v, .ref p] ∧ Dp K H v d ∧ SqT K H p (nsV path) ∧ sub path d = some e ∧ ∀ v', Dp K H v' e → Q v' H
theorem h_law_there (tx : Tx K mg) : Has P w K mg base CX0 1 "_law_there" ["_law_thing", "_law_place"] (spThere K) := by
  obtain ⟨fd, F⟩ := tx.fn_law_there
  refine has_n (st := s_law_there) F tx.g_law_there sc_law_there (fun _ _ _ _ _ _ us hl => match us, hl with | [_, _], _ => rfl) (fun vs H Q E h => ?_) (fun cdv A outer s H vs Q E hr h => ?_)
  · obtain ⟨v, d, p, path, e, rfl, _⟩ := h
    rfl
  · obtain ⟨v, d, p, path, e, rfl, hd, hp, hsub, kq⟩ := h
    have nd := sc_law_there.nd
    refine ⟨_, pss_cons (ps_for PassesOwn.never rfl (pi_tup (pv 1)) (pg_name (i := 2) nd rfl (Or.inl rfl)) (pss_one (ps_set (i := 0) nd rfl (Or.inl rfl) (pe_ix ix_tup (pv 0) (pv 2) (fun _ _ => rfl)))))
      (pss_one (ps_ret (pv 0))), ?_⟩
    refine ⟨_, rfl, p, rfl, ⟨_, hp⟩, for_tup (K := K) (xs := nsV path) (fun i σ H' => H' = H ∧ ∃ (v' : V) (d' : PyData) (o2 : Option V), σ = [some v', some (.ref p), o2] ∧ Dp K H v' d' ∧ sub (path.drop i) d' = some e) ?_ (fun i σ H' _ z => by rw [z.1]; exact hp) ?_ ?_⟩
    · exact ⟨rfl, v, d, none, rfl, hd, hsub⟩
    · rintro i x σ H' hx ⟨rfl, v', d', o2, rfl, hd', hs'⟩
      have hx' : path[i]? = some (path.getD i 0) ∧ x = .int ((path.getD i 0 : Nat) : Int) := by
        unfold nsV at hx
        rw [List.getElem?_map] at hx
        rw [List.getD_eq_getElem?_getD]
        cases e1 : path[i]? with
        | none => rw [e1] at hx; cases hx
        | some k => rw [e1] at hx; cases hx; exact ⟨rfl, rfl⟩
      obtain ⟨e1, rfl⟩ := hx'
      have ed : path.drop i = path.getD i 0 :: path.drop (i + 1) := by
        obtain ⟨hi, e2⟩ := List.getElem?_eq_some_iff.mp e1
        rw [List.drop_eq_getElem_cons hi, e2]
      rw [ed] at hs'
      obtain ⟨ds, d2, rfl, f1, f2⟩ := sub_cons hs'
      obtain ⟨p2, xs, rfl, hs2, ha⟩ := dp_tup hd'
      obtain ⟨y, g1, g2⟩ := dpAll_getD ha f1
      exact ⟨_, rfl, _, rfl, p2, xs, _, y, rfl, rfl, hs2, atI_nat g1, rfl, y, d2, _, rfl, g2, f2⟩
    · rintro σ H' ⟨rfl, v', d', o2, rfl, hd', hs'⟩
      have e0 : path.drop (nsV path).length = [] := by
        unfold nsV
        rw [List.length_map, List.drop_eq_nil_of_le (Nat.le_refl _)]
      rw [e0] at hs'
      cases hs'
      exact ⟨_, rfl, kq v' hd'⟩
/-! ### _law_put -/
theorem sc_law_put : FnScope ["_law_thing", "_law_place", "_law_new", "_law_k"] ["_law_thing", "_law_place", "_law_new"] (defScope s_law_put) := ⟨rfl, rfl, rfl, by decide +kernel, rfl, by decide +kernel, by decide +kernel⟩
def spLPut (K : PySem.W.Frag) (m : Nat) : Sp := fun vs H Q _ => ∃ (v : V) (d : PyData) (p : Addr) (path : List Nat) (e : PyData) (vn : V) (dn : PyData) (s : Nat), vs = [v, .ref p, vn] ∧ path.length ≤ m ∧ m ≤ 4 ∧ Dp K H v d ∧ SqT K H p (nsV path) ∧ sub path d = some e ∧ Dp K H vn dn ∧
  s ≤ 20 ∧ sm s d = true ∧ sm s dn = true ∧ (∀ p' ds, sub p' d = some (.tuple ds) → ds.length ≤ 4) ∧ ∀ H' v' d', Same H H' → Dp K H' v' d' → sm (s + m) d' = true → Q v' H'
theorem st_law_put (tx : Tx K mg) (m : Nat) (IH : Has P w K mg base CX0 (m + 0) "_law_put" ["_law_thing", "_law_place", "_law_new"] (dn (spLPut K) m)) : Has P w K mg base CX0 (m + 0 + 1) "_law_put" ["_law_thing", "_law_place", "_law_new"] (spLPut K m) := by
  obtain ⟨fd, F⟩ := tx.fn_law_put
  refine has_n (st := s_law_put) F tx.g_law_put sc_law_put (fun _ _ _ _ _ _ us hl => match us, hl with | [_, _, _], _ => rfl) (fun vs H Q E h => ?_) (fun cdv A outer s H vs Q E hr h => ?_)
  · obtain ⟨v, d, p, path, e, vn, dn, s, rfl, _⟩ := h
    rfl
  · obtain ⟨v, d, p, path, e, vn, dn, sz, rfl, hpl, hm, hd, hp, hsub, hn, hs20, smd, smn, hw4, kq⟩ := h
    have nd := sc_law_put.nd
    have hs0 : sizeLine = 16777216 := sizeLine_eq
    refine ⟨_, pss_cons (ps_if (pt_cmpR (op_eqD hr.units) (pv 1) (pe_tup pa_nil) (nomark _)) (pss_one (ps_ret (pv 2))) pss_nil)
      (pss_cons (ps_set (i := 3) nd rfl (Or.inl rfl) (pe_ix ix_tup (pv 1) pe_int (fun _ _ => rfl)))
      (pss_one (ps_ret (pe_op op_catA (pe_op op_catA (pe_slice sl_tupA (pv 0) po_none (po_some (pv 3)))
        (pe_tup (pa_cons (pe_h0 IH hr (pa_cons (pe_ix ix_tup (pv 0) (pv 3) (fun _ _ => rfl)) (pa_cons (pe_slice sl_tupA (pv 1) (po_some pe_int) po_none) (pa_cons (pv 2) pa_nil)))) pa_nil)))
        (pe_slice sl_tupA (pv 0) (po_some (pe_op op_add (pv 3) pe_int)) po_none))))), ?_⟩
    refine ⟨_, rfl, (by show 0 ≤ sizeLine; exact Nat.zero_le _), fun q0 hq0 => ?_⟩
    have s1 := same_upd (o := .tup []) hq0
    refine ⟨.tuple (path.map fun k => PyData.int (k : Nat)), .tuple [], .tup (same_sqT s1 hp) (nsV_dp path), .tup (SqT.of upd_same) .nil, sm_shaped (nsV_sm path) (by decide), sm_shaped (k := 1) rfl (by decide), _, rfl, ?_⟩
    rw [nsV_eqv]
    cases path with
    | nil => exact iteT ⟨_, rfl, kq _ _ _ s1 (dp_same s1 hn) (sm_le (by omega) smn)⟩
    | cons k ks =>
      refine iteF ?_
      obtain ⟨ds, d2, rfl, f1, f2⟩ := sub_cons hsub
      obtain ⟨p2, xs, rfl, hs2, ha⟩ := dp_tup hd
      have el := dpAll_len ha
      have hl4 := hw4 [] ds rfl
      obtain ⟨y, g1, g2⟩ := dpAll_getD ha f1
      obtain ⟨m', rfl⟩ : ∃ m', m = m' + 1 := ⟨m - 1, by simp only [List.length_cons] at hpl; omega⟩
      have hkx : k < xs.length := (List.getElem?_eq_some_iff.mp g1).1
      have hp1 := same_sqT s1 hp
      refine ⟨_, rfl, p, _, _, V.int ((k : Nat) : Int), rfl, rfl, hp1, atI_nat (j := 0) rfl, ?_⟩
      refine ⟨_, rfl, _, rfl, _, rfl, ?_⟩
      refine t_slA (same_sqT s1 hs2) fun qa H2 s2 h2 => ?_
      rw [cut_to (by omega)] at h2
      have s12 := Same.trans s1 s2
      refine ⟨_, rfl, _, rfl, p2, xs, _, y, rfl, rfl, same_sqT s12 hs2, atI_nat g1, _, rfl, _, rfl, ?_⟩
      refine t_noPart ?_
      refine t_slA (same_sqT s12 hp) fun qb H3 s3 h3 => ?_
      rw [cut_from (k := 1) (i := 1) (xs := nsV (k :: ks)) rfl (by unfold nsV; rw [List.length_map]; simp)] at h3
      have s123 := Same.trans s12 s3
      have eks : (nsV (k :: ks)).drop 1 = nsV ks := rfl
      rw [eks] at h3
      refine ⟨_, rfl, y, d2, qb, ks, e, vn, dn, sz, rfl, by simp only [List.length_cons] at hpl; omega, by omega, dp_same s123 g2, h3, f2, dp_same s123 hn, hs20, sm_sub smd d2 (List.mem_of_getElem? f1), smn, fun p' ds' z => hw4 (k :: p') ds' (sub_mk f1 z), fun H4 v4 d4 s4 dd4 sm4 => ?_⟩
      refine ⟨(by show 1 ≤ sizeLine; omega), fun qc hqc => ?_⟩
      have s5 := same_upd (o := .tup [v4]) hqc
      have s45 := Same.trans s4 s5
      refine t_catA (same_sqT (Same.trans s3 s45) h2) (SqT.of upd_same) (by rw [List.length_take]; simp only [List.length_cons, List.length_nil]; omega) fun qd H6 s6 h6 => ?_
      have s06 := Same.trans s123 (Same.trans s45 s6)
      refine ⟨_, rfl, _, rfl, _, _, rfl, rfl, _, rfl, ?_⟩
      refine t_noPart ?_
      refine t_slA (same_sqT s06 hs2) fun qe H7 s7 h7 => ?_
      rw [cut_from (k := k + 1) (i := (k : Int) + 1) (xs := xs) rfl (by omega)] at h7
      refine t_catA (same_sqT s7 h6) h7 (by rw [List.length_append, List.length_take, List.length_drop]; simp only [List.length_cons, List.length_nil]; omega) fun qf H8 s8 h8 => ?_
      have s08 := Same.trans s06 (Same.trans s7 s8)
      refine kq _ _ (.tuple ((ds.take k ++ [d4]) ++ ds.drop (k + 1))) s08 (.tup h8 (dpAll_cat (dpAll_cat (dpAll_same s08 (dpAll_take ha)) (.cons (dp_same (Same.trans s5 (Same.trans s6 (Same.trans s7 s8))) dd4) .nil)) (dpAll_same s08 (dpAll_drop ha)))) ?_
      refine sm_all.mpr fun x hx => ?_
      rcases List.mem_append.mp hx with hx | hx
      · rcases List.mem_append.mp hx with hx | hx
        · exact sm_le (Nat.le_add_right sz m') (sm_sub smd x (List.mem_of_mem_take hx))
        · rw [List.mem_singleton.mp hx]
          exact sm4
      · exact sm_le (Nat.le_add_right sz m') (sm_sub smd x (List.mem_of_mem_drop hx))
theorem h_law_put (tx : Tx K mg) (m : Nat) : Has P w K mg base CX0 (m + 0 + 1) "_law_put" ["_law_thing", "_law_place", "_law_new"] (spLPut K m) := by
  obtain ⟨fd, F⟩ := tx.fn_law_put
  exact has_rec (has_false (st := s_law_put) F tx.g_law_put (fun _ _ _ _ _ _ us hl => match us, hl with | [_, _, _], _ => rfl)) (fun m => st_law_put tx m) m
/-! ### _law_spoilt_thing -/
theorem br_width : ∀ {p : List Nat} {m : Nat} {d : PyData} {ds : List PyData}, br m d = true → sub p d = some (.tuple ds) → ds.length ≤ 4
  | [], m, d, ds, hb, hs => by
    cases hs
    obtain ⟨_, _, h, _⟩ := br_tup hb
    exact h
  | k :: ks, m, d, ds, hb, hs => by
    obtain ⟨es, d', rfl, h1, h2⟩ := sub_cons hs
    obtain ⟨m', rfl, _, h3⟩ := br_tup hb
    exact br_width (h3 d' (List.mem_of_getElem? h1)) h2
def i3 : PyData := .tuple [.int 1, .int 2, .int 3]
def i4 : PyData := .tuple [.int 1, .int 1, .int 1, .int 1]
def i5 : PyData := .tuple [.int 1, .int 2, .int 3, .int 4, .int 5]
def l4 : PyData := .list [.int 1, .int 2, .int 3, .int 4]
def someD (e : PyData) : List PyData := [.int (-1), .int 0, .int 3, .int 4, .int 9, .int 10, .bool true, .none, .str "1", .tuple [], i3, i4, i5, l4, .tuple [e, e, e, e]]
theorem someD_sm {e : PyData} {s : Nat} (h : sm s e = true) (h2 : 2 ≤ s) : ∀ d ∈ someD e, sm (s + 1) d = true := by
  have b : ∀ d, sm 1 d = true → sm (s + 1) d = true := fun d z => sm_le (by omega) z
  intro d hd
  simp only [someD, List.mem_cons, List.not_mem_nil, or_false] at hd
  rcases hd with rfl | rfl | rfl | rfl | rfl | rfl | rfl | rfl | rfl | rfl | rfl | rfl | rfl | rfl | rfl
  case' inr.inr.inr.inr.inr.inr.inr.inr.inr.inr.inr.inr.inr.inr =>
    refine sm_all.mpr fun x hx => ?_
    simp only [List.mem_cons, List.not_mem_nil, or_false, or_self] at hx
    rw [hx]
    exact h
  all_goals exact b _ (by decide +kernel)
theorem sc_law_spoilt_thing : FnScope ["_law_script", "_law_at", "_law_thing", "_law_places_here", "_law_place", "_law_here", "_law_some"] ["_law_script", "_law_at", "_law_thing"] (defScope s_law_spoilt_thing) := ⟨rfl, rfl, rfl, by decide +kernel, rfl, by decide +kernel, by decide +kernel⟩
def spSpoilt (K : PySem.W.Frag) : Sp := fun vs H Q _ => ∃ (a : Addr) (k : Nat) (v : V) (n : Nat) (t : T), vs = [.ref a, .int k, v] ∧ n ≤ 3 ∧ T.ok n t ∧ Scr K H a ∧ Dp K H v (pd n t) ∧ ∀ H' v' d', Same H H' → Dp K H' v' d' → sm 20 d' = true → Q v' H'
theorem h_law_spoilt_thing (tx : Tx K mg) : Has P w K mg base CX0 6 "_law_spoilt_thing" ["_law_script", "_law_at", "_law_thing"] (spSpoilt K) := by
  obtain ⟨fd, F⟩ := tx.fn_law_spoilt_thing
  refine has_n (st := s_law_spoilt_thing) F tx.g_law_spoilt_thing sc_law_spoilt_thing (fun _ _ _ _ _ _ us hl => match us, hl with | [_, _, _], _ => rfl) (fun vs H Q E h => ?_) (fun cdv A outer s H vs Q E hr h => ?_)
  · obtain ⟨a, k, v, n, t, rfl, _⟩ := h
    rfl
  · obtain ⟨a, k, v, n, t, rfl, hn, ok, hs, hd, kq⟩ := h
    have nd := sc_law_spoilt_thing.nd
    have hs0 : sizeLine = 16777216 := sizeLine_eq
    refine ⟨_, pss_cons (ps_set (i := 3) nd rfl (Or.inl rfl) (pe_h0 (h_law_places tx 4) hr (pa_cons (pv 2) pa_nil)))
      (pss_cons (ps_set (i := 4) nd rfl (Or.inl rfl) (pe_ix ix_list (pv 3) (pe_h0 (h_law_pick tx) (hr.mono (by decide)) (pa_cons (pv 0) (pa_cons (pv 1) (pa_cons (pe_callB call_len_seq (by rfl) tx.z_len b_len (pa_cons (pv 3) pa_nil)) pa_nil)))) (fun _ _ => rfl)))
      (pss_cons (ps_set (i := 5) nd rfl (Or.inl rfl) (pe_h0 (h_law_there tx) (hr.mono (by decide)) (pa_cons (pv 2) (pa_cons (pv 4) pa_nil))))
      (pss_cons (ps_set (i := 6) nd rfl (Or.inl rfl) (pe_lst (pa_cons (pe_un un_neg pe_int) (pa_cons pe_int (pa_cons pe_int (pa_cons pe_int (pa_cons pe_int (pa_cons pe_int (pa_cons pe_bl (pa_cons pe_non (pa_cons pe_str (pa_cons (pe_tup pa_nil)
        (pa_cons (pe_tup (pa_cons pe_int (pa_cons pe_int (pa_cons pe_int pa_nil)))) (pa_cons (pe_tup (pa_cons pe_int (pa_cons pe_int (pa_cons pe_int (pa_cons pe_int pa_nil))))) (pa_cons (pe_tup (pa_cons pe_int (pa_cons pe_int (pa_cons pe_int (pa_cons pe_int (pa_cons pe_int pa_nil)))))) pa_nil)))))))))))))))
      (pss_cons (ps_expr (pe_bm PySem.F.plainAttrs_list PySem.F.slot_list_extend PySem.F.type_list_extend mt_extend (pv 6) (pa_cons (pe_lst (pa_cons (pe_lst (pa_cons pe_int (pa_cons pe_int (pa_cons pe_int (pa_cons pe_int pa_nil))))) (pa_cons (pe_op op_repT (pe_tup (pa_cons (pv 5) pa_nil)) pe_int) pa_nil))) pa_nil)))
      (pss_one (ps_ret (pe_h0 (h_law_put tx 4) hr (pa_cons (pv 2) (pa_cons (pv 4) (pa_cons (pe_ix ix_list (pv 6) (pe_h0 (h_law_pick tx) (hr.mono (by decide)) (pa_cons (pv 0) (pa_cons (pe_op op_add (pv 1) pe_int) (pa_cons pe_int pa_nil)))) (fun _ _ => rfl)) pa_nil)))))))))), ?_⟩
    have hb : br 4 (pd n t) = true := br_le (by omega) (br_pd ok)
    have hsm : sm 4 (pd n t) = true := sm_le (by omega) (sm_pd ok)
    refine ⟨_, rfl, v, pd n t, rfl, by decide, hb, hd, fun H1 l xs s1 hl hne hxl hP => ?_⟩
    have hx0 : 0 < xs.length := List.length_pos_iff.mpr hne
    refine ⟨_, rfl, _, rfl, _, rfl, _, rfl, l, xs, rfl, .inl (SqL.of hl), a, k, xs.length, rfl, hx0, hs.same s1, fun j H2 hj s2 => ?_⟩
    obtain ⟨p, path, e, ep, hp, hsub⟩ := hP xs[j] (List.getElem_mem hj)
    have s12 := Same.trans s1 s2
    refine ⟨l, xs, _, .ref p, rfl, rfl, SqL.of (s2 _ _ hl), atI_nat (by rw [List.getElem?_eq_getElem hj, ep]), ?_⟩
    have hp2 := same_sqT s2 hp
    have hd2 := dp_same s12 hd
    refine ⟨_, rfl, _, rfl, v, pd n t, p, path, e, rfl, hd2, hp2, hsub, fun vh hvh => ?_⟩
    refine ⟨_, rfl, ?_⟩
    refine ⟨(by show 0 ≤ sizeLine; omega), fun q0 g0 => ⟨(by show 3 ≤ sizeLine; omega), fun q1 g1 => ⟨(by show 4 ≤ sizeLine; omega), fun q2 g2 => ⟨(by show 5 ≤ sizeLine; omega), fun q3 g3 => ⟨(by show 13 ≤ sizeLine; omega), fun L gL => ?_⟩⟩⟩⟩⟩
    have t0 := same_upd (o := .tup []) g0
    have t1 := same_upd (o := .tup [.int 1, .int 2, .int 3]) g1
    have t2 := same_upd (o := .tup [.int 1, .int 1, .int 1, .int 1]) g2
    have t3 := same_upd (o := .tup [.int 1, .int 2, .int 3, .int 4, .int 5]) g3
    have w0 := t3 _ _ (t2 _ _ (t1 _ _ (upd_same (H := H2) (a := q0) (o := .tup []))))
    have w1 := t3 _ _ (t2 _ _ (upd_same (H := upd H2 q0 (.tup [])) (a := q1) (o := .tup [.int 1, .int 2, .int 3])))
    have w2 := t3 _ _ (upd_same (H := upd (upd H2 q0 (.tup [])) q1 (.tup [.int 1, .int 2, .int 3])) (a := q2) (o := .tup [.int 1, .int 1, .int 1, .int 1]))
    have w3 := upd_same (H := upd (upd (upd H2 q0 (.tup [])) q1 (.tup [.int 1, .int 2, .int 3])) q2 (.tup [.int 1, .int 1, .int 1, .int 1])) (a := q3) (o := .tup [.int 1, .int 2, .int 3, .int 4, .int 5])
    have t03 := Same.trans t0 (Same.trans t1 (Same.trans t2 t3))
    have hvh3 := dp_same t03 hvh
    have hd3 := dp_same t03 hd2
    have hp3 := same_sqT t03 hp2
    have hsc3 := hs.same (Same.trans s12 t03)
    have s13 := Same.trans s12 t03
    generalize hHL : upd (upd (upd (upd H2 q0 (.tup [])) q1 (.tup [.int 1, .int 2, .int 3])) q2 (.tup [.int 1, .int 1, .int 1, .int 1])) q3 (.tup [.int 1, .int 2, .int 3, .int 4, .int 5]) = HL at *
    refine ⟨_, rfl, .inl ⟨rfl, _, SqL.of upd_same⟩, (by show 4 ≤ sizeLine; omega), fun q4 g4 => ⟨_, rfl, (by show 1 ≤ sizeLine; omega), fun q5 g5 => ?_⟩⟩
    refine ⟨q5, 4, [vh], rfl, rfl, SqT.of upd_same, by simp, by decide, by decide, (by show 1 ≤ 1000; decide), fun q6 g6 => ⟨(by show 2 ≤ sizeLine; omega), fun M gM => ?_⟩⟩
    have t4 := same_upd (o := .lst [.int 1, .int 2, .int 3, .int 4]) g4
    have t5 := same_upd (o := .tup [vh]) g5
    have t6 := same_upd (o := .tup (List.replicate (4 : Int).toNat [vh]).flatten) g6
    have t7 := same_upd (o := .lst [.ref q4, .ref q6]) gM
    have tLM := Same.trans t4 (Same.trans t5 (Same.trans t6 t7))
    have wL := tLM _ _ (upd_same (H := HL) (a := L) (o := .lst [.int (-1), .int 0, .int 3, .int 4, .int 9, .int 10, .bl true, .non, .str "1", .ref q0, .ref q1, .ref q2, .ref q3]))
    refine ⟨L, M, _, _, rfl, rfl, wL, upd_same, (by show 13 + 2 ≤ sizeLine; omega), ?_⟩
    have tL := same_upd (o := .lst [.int (-1), .int 0, .int 3, .int 4, .int 9, .int 10, .bl true, .non, .str "1", .ref q0, .ref q1, .ref q2, .ref q3]) gL
    have w4 := Same.trans t5 (Same.trans t6 t7) _ _ (upd_same (a := q4) (o := .lst [.int 1, .int 2, .int 3, .int 4]))
    have w6 := t7 _ _ (upd_same (a := q6) (o := .tup (List.replicate (4 : Int).toNat [vh]).flatten))
    have n4 : q4 ≠ L := ne_none g4 upd_same
    have sM := Same.trans tL tLM
    generalize upd (upd (upd (upd (upd HL L _) q4 _) q5 _) q6 _) M _ = HM at *
    have sF : Same HL (upd HM L (.lst ([.int (-1), .int 0, .int 3, .int 4, .int 9, .int 10, .bl true, .non, .str "1", .ref q0, .ref q1, .ref q2, .ref q3] ++ [.ref q4, .ref q6]))) := fun c o z => by
      rw [upd_ne (ne_of_none z gL)]
      exact sM _ _ z
    have v4 : (upd HM L (.lst ([.int (-1), .int 0, .int 3, .int 4, .int 9, .int 10, .bl true, .non, .str "1", .ref q0, .ref q1, .ref q2, .ref q3] ++ [.ref q4, .ref q6]))) q4 = some (.lst [.int 1, .int 2, .int 3, .int 4]) := by
      rw [upd_ne n4]
      exact w4
    have v6 := but_sqT (K := K) wL (but_upd (H := HM) (o := .lst ([.int (-1), .int 0, .int 3, .int 4, .int 9, .int 10, .bl true, .non, .str "1", .ref q0, .ref q1, .ref q2, .ref q3] ++ [.ref q4, .ref q6]))) (SqT.of w6)
    have vL := upd_same (H := HM) (a := L) (o := .lst ([.int (-1), .int 0, .int 3, .int 4, .int 9, .int 10, .bl true, .non, .str "1", .ref q0, .ref q1, .ref q2, .ref q3] ++ [.ref q4, .ref q6]))
    generalize upd HM L (.lst ([.int (-1), .int 0, .int 3, .int 4, .int 9, .int 10, .bl true, .non, .str "1", .ref q0, .ref q1, .ref q2, .ref q3] ++ [.ref q4, .ref q6])) = HF at *
    have hvF := dp_same sF hvh3
    have sme := sub_sm hsm hsub
    have all : DpAll K HF ([.int (-1), .int 0, .int 3, .int 4, .int 9, .int 10, .bl true, .non, .str "1", .ref q0, .ref q1, .ref q2, .ref q3] ++ [.ref q4, .ref q6]) (someD e) :=
      .cons (.int _) (.cons (.int _) (.cons (.int _) (.cons (.int _) (.cons (.int _) (.cons (.int _) (.cons (.bl _) (.cons .non (.cons (.str _) (.cons (.tup (SqT.of (sF _ _ w0)) .nil)
      (.cons (.tup (SqT.of (sF _ _ w1)) (.cons (.int _) (.cons (.int _) (.cons (.int _) .nil)))) (.cons (.tup (SqT.of (sF _ _ w2)) (.cons (.int _) (.cons (.int _) (.cons (.int _) (.cons (.int _) .nil)))))
      (.cons (.tup (SqT.of (sF _ _ w3)) (.cons (.int _) (.cons (.int _) (.cons (.int _) (.cons (.int _) (.cons (.int _) .nil))))))
      (.cons (.lst (SqL.of v4) (.cons (.int _) (.cons (.int _) (.cons (.int _) (.cons (.int _) .nil))))) (.cons (.tup v6 (.cons hvF (.cons hvF (.cons hvF (.cons hvF .nil))))) .nil))))))))))))))
    refine ⟨_, rfl, _, rfl, _, rfl, _, rfl, _, rfl, _, _, rfl, rfl, a, k + 1, 15, rfl, by decide, hsc3.same sF, fun j2 H8 hj2 s8 => ?_⟩
    have hlen : j2 < ([.int (-1), .int 0, .int 3, .int 4, .int 9, .int 10, .bl true, .non, .str "1", .ref q0, .ref q1, .ref q2, .ref q3] ++ [.ref q4, .ref q6] : List V).length := hj2
    obtain ⟨dn, e1, e2⟩ := dpAll_get all (List.getElem?_eq_getElem hlen)
    refine ⟨L, _, _, _, rfl, rfl, SqL.of (s8 _ _ vL), atI_nat (List.getElem?_eq_getElem hlen), ?_⟩
    have sF8 := Same.trans sF s8
    exact ⟨v, pd n t, p, path, e, _, dn, 5, rfl, sub_deep hb hsub, by decide, dp_same sF8 hd3, same_sqT sF8 hp3, hsub, dp_same s8 e2, by decide, sm_up hsm, someD_sm sme (by decide) dn (List.mem_of_getElem? e1), fun p' ds z => br_width hb z,
      fun H9 v9 d9 s9 dd9 sm9 => kq _ _ d9 (Same.trans s13 (Same.trans sF8 s9)) dd9 (sm_le (by decide) sm9)⟩
end
end Ff
set_option Elab.async false
set_option linter.all false
set_option maxRecDepth 100000
set_option maxHeartbeats 2000000
namespace Ff
open PySem PySem.Spec PyProof.Rows L2
theorem same_over {H H1 : Hp} {L : Addr} {o : HO} (e : Same H H1) (h : H L = none) : Same H (upd H1 L o) := fun c u z => by
  rw [upd_ne (ne_of_none z h)]
  exact e _ _ z
/-- the word of a kind -/
def word (x : Str) : Str := if x = "BadBox" then "bad box" else if x = "NoPicture" then "no picture" else if x = "NoSpot" then "no spot" else "nothing done"
def bsOf (x : Str) : List V := [.bl (decide (x = "BadBox")), .bl (decide (x = "NoBlocks")), .bl (decide (x = "NoChange")), .bl (decide (x = "NoNumber")), .bl (decide (x = "NoPicture")), .bl (decide (x = "NoRule")), .bl (decide (x = "NoSpot")), .bl (decide (x = "NoText")), .bl (decide (x = "NothingDone")), .bl (decide (x = "Unlike"))]
def words : List V := [.str "bad box", .str "no blocks", .str "no change", .str "no number", .str "no picture", .str "no rule", .str "no spot", .str "no text", .str "nothing done", .str "unlike"]
theorem word_at {x : Str} (h : x ∈ raisd) : (bsOf x).countP (fun z => eqV z (.bl true)) = 1 ∧ (bsOf x).all flatV = true ∧ ∃ j : Nat, (bsOf x)[j]? = some (.bl true) ∧ (∀ (m : Nat) (z : V), m < j → (bsOf x)[m]? = some z → eqV z (.bl true) = false) ∧ words[j]? = some (.str (word x)) := by
  have lt : ∀ (j : Nat) (l : List V), ((List.range j).all fun m => match l[m]? with
      | some z => !eqV z (.bl true)
      | none => true) = true → ∀ (m : Nat) (z : V), m < j → l[m]? = some z → eqV z (.bl true) = false := fun j l h m z hm e => by
    have z1 := List.all_eq_true.mp h m (List.mem_range.mpr hm)
    rw [e] at z1
    simpa using z1
  simp only [raisd, List.mem_cons, List.not_mem_nil, or_false] at h
  rcases h with rfl | rfl | rfl | rfl
  · exact ⟨by decide +kernel, by decide +kernel, 4, by decide +kernel, lt _ _ (by decide +kernel), by decide +kernel⟩
  · exact ⟨by decide +kernel, by decide +kernel, 6, by decide +kernel, lt _ _ (by decide +kernel), by decide +kernel⟩
  · exact ⟨by decide +kernel, by decide +kernel, 0, by decide +kernel, lt _ _ (by decide +kernel), by decide +kernel⟩
  · exact ⟨by decide +kernel, by decide +kernel, 8, by decide +kernel, lt _ _ (by decide +kernel), by decide +kernel⟩
section
variable {X : Cx} {e : Expr} {te : TE} {p p2 pos : Pos}
def tIsX (K : PySem.W.Frag) (te : TE) (v : V) : TE := tCB (rIsX K) (tCons te (tCons (tC v) tNil))
theorem pe_isX {y : Str} {C : Addr} (zi : X.mg "isinstance" = none) (he : PE X e te) (g : X.mg y = some (.ref C)) (hg2 : Gl X y := by rfl) (hdb : (y == ("__debug__" : Str)) = false := by decide) (hg : Gl X "isinstance" := by rfl)
    (hs : starEach [e, .Name y p2] X.env = (false, eval e X.env) :: starEach [.Name y p2] X.env := by rfl) (hpl : (backTo pos (starEach [.Name y p2] X.env)).any (·.1) = false := by rfl) :
    PE X (.Call (.Name "isinstance" p) [e, .Name y p2] [] pos) (tIsX X.K te (.ref C)) :=
  pe_callB call_isX hg zi b_isinstance (pa_cons he (pa_cons (pe_glob (v := .ref C) hg2 g rfl hdb) pa_nil) hs) (by decide) (by decide) hs hpl
theorem pe_isVE (zi : X.mg "isinstance" = none) (zv : X.mg "ValueError" = none) (he : PE X e te) (hg2 : Gl X "ValueError" := by rfl) (hg : Gl X "isinstance" := by rfl)
    (hs : starEach [e, .Name "ValueError" p2] X.env = (false, eval e X.env) :: starEach [.Name "ValueError" p2] X.env := by rfl) (hpl : (backTo pos (starEach [.Name "ValueError" p2] X.env)).any (·.1) = false := by rfl) :
    PE X (.Call (.Name "isinstance" p) [e, .Name "ValueError" p2] [] pos) (tIsX X.K te (.ty "ValueError")) :=
  pe_callB call_isX hg zi b_isinstance (pa_cons he (pa_cons (pe_bltn (v := .ty "ValueError") hg2 zv b_ValueError rfl) pa_nil) hs) (by decide) (by decide) hs hpl
end
section
variable {P : Program} {w : World} {K : PySem.W.Frag} {mg : Str → Option Value} {base : Heap}
theorem t_isX (tx : Tx K mg) {x y : Str} (hx : x ∈ raisd) (hy : y ∈ kinds) {σ : L2.St} {i : Nat} {a : Addr} {H : Hp} {Q : VK} (hv : σ[i]? = some (some (.ref a))) (ha : H a = some (exO a (.ref (He.ga K x)))) (k : Q (.bl (decide (x = y))) H) :
    tIsX K (tVar i) (.ref (He.ga K y)) σ H Q := ⟨_, hv, a, He.ga K x, _, _, _, rfl, .own _, ha, tx.excC hx, tx.isas hx hy, k⟩
theorem t_isVE (tx : Tx K mg) {x : Str} (hx : x ∈ raisd) {σ : L2.St} {i : Nat} {a : Addr} {H : Hp} {Q : VK} (hv : σ[i]? = some (some (.ref a))) (ha : H a = some (exO a (.ref (He.ga K x)))) (k : Q (.bl true) H) :
    tIsX K (tVar i) (.ty "ValueError") σ H Q := ⟨_, hv, a, He.ga K x, _, _, _, rfl, .ty _, ha, tx.excC hx, tx.isVE hx, k⟩
/-! ### _law_word -/
theorem sc_law_word : FnScope ["_law_kept", "_law_kinds", "_law_words"] ["_law_kept"] (defScope s_law_word) := ⟨rfl, rfl, rfl, by decide +kernel, rfl, by decide +kernel, by decide +kernel⟩
def spWord (K : PySem.W.Frag) : Sp := fun vs H Q _ => ∃ (a : Addr) (x : Str), vs = [.ref a] ∧ x ∈ raisd ∧ H a = some (exO a (.ref (He.ga K x))) ∧ ∀ H', Same H H' → Q (.str (word x)) H'
theorem h_law_word (tx : Tx K mg) : Has P w K mg base CX0 1 "_law_word" ["_law_kept"] (spWord K) := by
  obtain ⟨fd, F⟩ := tx.fn_law_word
  refine has_n (st := s_law_word) F tx.g_law_word sc_law_word (fun _ _ _ _ _ _ us hl => match us, hl with | [_], _ => rfl) (fun vs H Q E h => ?_) (fun cdv A outer s H vs Q E hr h => ?_)
  · obtain ⟨a, x, rfl, _⟩ := h
    rfl
  · obtain ⟨a, x, rfl, hx, ha, kq⟩ := h
    have nd := sc_law_word.nd
    have hs0 : sizeLine = 16777216 := sizeLine_eq
    refine ⟨_, pss_cons (ps_set (i := 1) nd rfl (Or.inl rfl) (pe_lst (pa_cons (pe_isX tx.z_isinstance (pv 0) tx.g_BadBox) (pa_cons (pe_isX tx.z_isinstance (pv 0) tx.g_NoBlocks) (pa_cons (pe_isX tx.z_isinstance (pv 0) tx.g_NoChange) pa_nil)))))
      (pss_cons (ps_expr (pe_bm PySem.F.plainAttrs_list PySem.F.slot_list_append PySem.F.type_list_append mt_append (pv 1) (pa_cons (pe_isX tx.z_isinstance (pv 0) tx.g_NoNumber) pa_nil)))
      (pss_cons (ps_expr (pe_bm PySem.F.plainAttrs_list PySem.F.slot_list_extend PySem.F.type_list_extend mt_extend (pv 1) (pa_cons (pe_lst (pa_cons (pe_isX tx.z_isinstance (pv 0) tx.g_NoPicture) (pa_cons (pe_isX tx.z_isinstance (pv 0) tx.g_NoRule) (pa_cons (pe_isX tx.z_isinstance (pv 0) tx.g_NoSpot) pa_nil)))) pa_nil)))
      (pss_cons (ps_expr (pe_bm PySem.F.plainAttrs_list PySem.F.slot_list_extend PySem.F.type_list_extend mt_extend (pv 1) (pa_cons (pe_lst (pa_cons (pe_isX tx.z_isinstance (pv 0) tx.g_NoText) (pa_cons (pe_isX tx.z_isinstance (pv 0) tx.g_NothingDone) (pa_cons (pe_isX tx.z_isinstance (pv 0) tx.g_Unlike) pa_nil)))) pa_nil)))
      (pss_cons (ps_if (PW.pt (pw_or (pt_cmpR op_ne (pe_bm PySem.F.plainAttrs_list PySem.F.slot_list_count PySem.F.type_list_count mt_countV (pv 1) (pa_cons pe_bl pa_nil)) pe_int (nomark _)) (pw_or1 (pt_not (pt_val (pe_isVE tx.z_isinstance tx.z_ValueError (pv 0))))))) (pss_one (ps_ret pe_str)) pss_nil)
      (pss_cons (ps_set (i := 2) nd rfl (Or.inl rfl) (pe_lst (pa_cons pe_str (pa_cons pe_str (pa_cons pe_str (pa_cons pe_str (pa_cons pe_str (pa_cons pe_str (pa_cons pe_str (pa_cons pe_str pa_nil))))))))))
      (pss_one (ps_ret (pe_ix ix_list (pe_op op_cat (pv 2) (pe_lst (pa_cons pe_str (pa_cons pe_str pa_nil)))) (pe_bm PySem.F.plainAttrs_list PySem.F.slot_list_index PySem.F.type_list_index mt_index (pv 1) (pa_cons pe_bl pa_nil)) (fun _ _ => rfl))))))))), ?_⟩
    obtain ⟨c1, c2, j, c3, c4, c5⟩ := word_at hx
    refine ⟨_, rfl, a, He.ga K x, _, _, _, rfl, .own _, ha, tx.excC hx, tx.isas hx (y := "BadBox") (by decide +kernel), _, rfl, a, He.ga K x, _, _, _, rfl, .own _, ha, tx.excC hx, tx.isas hx (y := "NoBlocks") (by decide +kernel), _, rfl, a, He.ga K x, _, _, _, rfl, .own _, ha, tx.excC hx, tx.isas hx (y := "NoChange") (by decide +kernel), (by show 3 ≤ sizeLine; omega), fun L hL => ?_⟩
    have s1 := same_upd (o := .lst [.bl (decide (x = "BadBox")), .bl (decide (x = "NoBlocks")), .bl (decide (x = "NoChange"))]) hL
    have a1 := s1 _ _ ha
    refine ⟨_, rfl, .inl ⟨rfl, _, SqL.of upd_same⟩, _, rfl, a, He.ga K x, _, _, _, rfl, .own _, a1, tx.excC hx, tx.isas hx (y := "NoNumber") (by decide +kernel), L, _, _, rfl, rfl, upd_same, (by show 3 < sizeLine; omega), ?_⟩
    rw [upd_upd]
    have s2 := same_upd (o := .lst ([.bl (decide (x = "BadBox")), .bl (decide (x = "NoBlocks")), .bl (decide (x = "NoChange"))] ++ [.bl (decide (x = "NoNumber"))])) hL
    have a2 := s2 _ _ ha
    refine ⟨_, rfl, .inl ⟨rfl, _, SqL.of upd_same⟩, _, rfl, a, He.ga K x, _, _, _, rfl, .own _, a2, tx.excC hx, tx.isas hx (y := "NoPicture") (by decide +kernel), _, rfl, a, He.ga K x, _, _, _, rfl, .own _, a2, tx.excC hx, tx.isas hx (y := "NoRule") (by decide +kernel), _, rfl, a, He.ga K x, _, _, _, rfl, .own _, a2, tx.excC hx, tx.isas hx (y := "NoSpot") (by decide +kernel), (by show 3 ≤ sizeLine; omega), fun M hM => ?_⟩
    have s3 := same_upd (o := .lst [.bl (decide (x = "NoPicture")), .bl (decide (x = "NoRule")), .bl (decide (x = "NoSpot"))]) hM
    refine ⟨L, M, _, _, rfl, rfl, s3 _ _ upd_same, upd_same, (by show 4 + 3 ≤ sizeLine; omega), ?_⟩
    have s4 := same_over (o := .lst (([.bl (decide (x = "BadBox")), .bl (decide (x = "NoBlocks")), .bl (decide (x = "NoChange"))] ++ [.bl (decide (x = "NoNumber"))]) ++ [.bl (decide (x = "NoPicture")), .bl (decide (x = "NoRule")), .bl (decide (x = "NoSpot"))])) (Same.trans s2 s3) hL
    have w4 := upd_same (H := upd (upd H L (.lst ([.bl (decide (x = "BadBox")), .bl (decide (x = "NoBlocks")), .bl (decide (x = "NoChange"))] ++ [.bl (decide (x = "NoNumber"))]))) M (.lst [.bl (decide (x = "NoPicture")), .bl (decide (x = "NoRule")), .bl (decide (x = "NoSpot"))])) (a := L) (o := .lst (([.bl (decide (x = "BadBox")), .bl (decide (x = "NoBlocks")), .bl (decide (x = "NoChange"))] ++ [.bl (decide (x = "NoNumber"))]) ++ [.bl (decide (x = "NoPicture")), .bl (decide (x = "NoRule")), .bl (decide (x = "NoSpot"))]))
    generalize upd (upd (upd H L _) M _) L _ = H4 at *
    have a4 := s4 _ _ ha
    refine ⟨_, rfl, .inl ⟨rfl, _, SqL.of w4⟩, _, rfl, a, He.ga K x, _, _, _, rfl, .own _, a4, tx.excC hx, tx.isas hx (y := "NoText") (by decide +kernel), _, rfl, a, He.ga K x, _, _, _, rfl, .own _, a4, tx.excC hx, tx.isas hx (y := "NothingDone") (by decide +kernel), _, rfl, a, He.ga K x, _, _, _, rfl, .own _, a4, tx.excC hx, tx.isas hx (y := "Unlike") (by decide +kernel), (by show 3 ≤ sizeLine; omega), fun M2 hM2 => ?_⟩
    have s5 := same_upd (o := .lst [.bl (decide (x = "NoText")), .bl (decide (x = "NothingDone")), .bl (decide (x = "Unlike"))]) hM2
    refine ⟨L, M2, _, _, rfl, rfl, s5 _ _ w4, upd_same, (by show 7 + 3 ≤ sizeLine; omega), ?_⟩
    have s6 := same_over (o := .lst (bsOf x)) (Same.trans s4 s5) hL
    have w6 : (upd (upd H4 M2 (.lst [.bl (decide (x = "NoText")), .bl (decide (x = "NothingDone")), .bl (decide (x = "Unlike"))])) L (.lst (bsOf x))) L = some (.lst (bsOf x)) := upd_same
    have e6 : (([V.bl (decide (x = "BadBox")), .bl (decide (x = "NoBlocks")), .bl (decide (x = "NoChange"))] ++ [.bl (decide (x = "NoNumber"))]) ++ [.bl (decide (x = "NoPicture")), .bl (decide (x = "NoRule")), .bl (decide (x = "NoSpot"))]) ++ [.bl (decide (x = "NoText")), .bl (decide (x = "NothingDone")), .bl (decide (x = "Unlike"))] = bsOf x := rfl
    rw [e6]
    generalize upd (upd H4 M2 _) L _ = H6 at *
    have a6 := s6 _ _ ha
    refine ⟨_, rfl, .inl ⟨rfl, _, SqL.of w6⟩, L, bsOf x, .bl true, rfl, rfl, SqL.of w6, rfl, c2, ?_⟩
    rw [c1]
    refine ⟨rfl, _, rfl, ?_⟩
    have e7 : (!decide (V.int ((1 : Nat) : Int) = V.int 1)) = false := rfl
    rw [e7]
    refine iteF ⟨_, rfl, a, He.ga K x, _, _, _, rfl, .ty _, a6, tx.excC hx, tx.isVE hx, _, rfl, iteF ?_⟩
    refine ⟨(by show 8 ≤ sizeLine; omega), fun W1 hW1 => ?_⟩
    have s7 := same_upd (o := .lst [.str "bad box", .str "no blocks", .str "no change", .str "no number", .str "no picture", .str "no rule", .str "no spot", .str "no text"]) hW1
    refine ⟨_, rfl, (by show 2 ≤ sizeLine; omega), fun W2 hW2 => ?_⟩
    have s8 := same_upd (o := .lst [.str "nothing done", .str "unlike"]) hW2
    refine ⟨W1, W2, _, _, rfl, rfl, s8 _ _ upd_same, upd_same, (by show 8 + 2 ≤ sizeLine; omega), fun W3 hW3 => ?_⟩
    have s9 := same_upd (o := .lst words) hW3
    have w9 : (upd (upd (upd H6 W1 (.lst [.str "bad box", .str "no blocks", .str "no change", .str "no number", .str "no picture", .str "no rule", .str "no spot", .str "no text"])) W2 (.lst [.str "nothing done", .str "unlike"])) W3 (.lst words)) W3 = some (.lst words) := upd_same
    have s79 := Same.trans s7 (Same.trans s8 s9)
    have w9L := s79 _ _ w6
    refine ⟨_, rfl, .inl ⟨rfl, _, SqL.of w9L⟩, L, bsOf x, .bl true, j, .bl true, rfl, rfl, SqL.of w9L, rfl, c2, c3, rfl, c4, ?_⟩
    exact ⟨W3, words, _, .str (word x), rfl, rfl, SqL.of w9, atI_nat c5, kq _ (Same.trans s6 s79)⟩
end
end Ff
set_option Elab.async false
set_option linter.all false
set_option maxRecDepth 100000
set_option maxHeartbeats 2000000
namespace Ff
open PySem PySem.Spec PyProof.Rows L2
theorem takes_no {X : Cx} : Takes X (fun _ _ _ _ => False) := fun _ _ ⟨_, _, _, _, _, _, _, _, _, _, _, _, _, _, _, _, w⟩ => w.elim
theorem HasM.mono {P : Program} {w : World} {K : PySem.W.Frag} {mg : Str → Option Value} {base : Heap} {CX : CXT} {j k : Nat} {m : Str} {ps : List Str} {sp : Sp} (h : HasM P w K mg base CX j m ps sp) (hk : j ≤ k) : HasM P w K mg base CX k m ps sp := ⟨let ⟨fd, b, f⟩ := h.fn; ⟨fd, b, f.mono hk⟩⟩
theorem PaintAt.same {K : PySem.W.Frag} {H H' : Hp} {p : Addr} {n : Nat} {ts : List T} {i : Nat} (e : Same H H') (h : PaintAt K H p n ts i) : PaintAt K H' p n ts i := paint_same e h
section
variable {X : Cx} {CX : CXT} {k : Nat} {C : Addr} {ps : List Str} {sp : Sp} {E : L2.St → XK} {m : Str} {p pos apos : Pos} {e o : Expr} {es : List Expr} {ta : TE} {t : TA}
theorem pe_mC {pl : Sem Bool} (hC : C = He.ga X.K "Painter") (h : HasM X.prog X.w X.K X.mg X.base CX k m ps sp) (hr : Room k X.A) (hx : ∀ σ, PassesAt CX X σ (E σ)) (c : Cls X.K (He.ga X.K "Painter")) (hm : Meth X.K (He.ga X.K "Painter") m (He.ma X.K (He.ga X.K "Painter") m)) (he : PE X o ta) (ha : PA X (e :: es) t)
    (hst : starEach (e :: es) X.env = (false, eval e X.env) :: starEach es X.env := by rfl) (hpl : (backTo pos (starEach es X.env)).any (·.1) = false := by rfl)
    (ht : eval (.Call (.Attribute o m apos) (e :: es) [] pos) X.env = (do
      let ov ← eval o X.env
      standAt apos.atName
      let (f, first) ← holding [ov] (getMethod ov m pl)
      callWith pos f first (backTo pos (starEach (e :: es) X.env)) (backToKw pos (keywordEach [] X.env))) := by rfl) :
    PE X (.Call (.Attribute o m apos) (e :: es) [] pos) (tMethE C m sp E ta t) := by
  subst hC
  exact pe_mE h hr hx c hm he ha hst hpl ht
theorem pe_mC0 {pl : Sem Bool} (hC : C = He.ga X.K "Painter") (h : HasM X.prog X.w X.K X.mg X.base CX k m ps sp) (hr : Room k X.A) (hx : ∀ σ, PassesAt CX X σ (E σ)) (c : Cls X.K (He.ga X.K "Painter")) (hm : Meth X.K (He.ga X.K "Painter") m (He.ma X.K (He.ga X.K "Painter") m)) (he : PE X o ta)
    (ht : eval (.Call (.Attribute o m apos) [] [] pos) X.env = (do
      let ov ← eval o X.env
      standAt apos.atName
      let (f, first) ← holding [ov] (getMethod ov m pl)
      callWith pos f first (backTo pos (starEach [] X.env)) (backToKw pos (keywordEach [] X.env))) := by rfl) :
    PE X (.Call (.Attribute o m apos) [] [] pos) (tMethE C m sp E ta tNil) := by
  subst hC
  exact pe_mE0 h hr hx c hm he ht
theorem pe_makeC (hC : C = He.ga X.K "Painter") (M : Mk X.K (He.ga X.K "Painter") (He.ma X.K (He.ga X.K "Painter") "__init__")) (h : HasM X.prog X.w X.K X.mg X.base CX k "__init__" ps sp) (hr : Room (k + 1) X.A) (hgl : X.mg "Painter" = some (.ref (He.ga X.K "Painter")))
    (hx : ∀ σ, PassesAt CX X σ (E σ)) (ha : PA X (e :: es) t) (hg : Gl X "Painter" := by rfl)
    (he : starEach (e :: es) X.env = (false, eval e X.env) :: starEach es X.env := by rfl) (hpl : (backTo pos (starEach es X.env)).any (·.1) = false := by rfl) :
    PE X (.Call (.Name "Painter" p) (e :: es) [] pos) (tMakeE C sp E t) := by
  subst hC
  exact pe_makeE M h hr hgl hx ha hg he hpl
end
section
variable {P : Program} {w : World} {K : PySem.W.Frag} {mg : Str → Option Value} {base : Heap}
/-! ### _law_do -/
theorem sc_law_do : FnScope ["_law_painter", "_law_what", "_law_one", "_law_other", "_law_kept", "_law_answer", "e"] ["_law_painter", "_law_what", "_law_one", "_law_other"] (defScope s_law_do) := ⟨rfl, rfl, rfl, by decide +kernel, rfl, by decide +kernel, by decide +kernel⟩
/-- a step that ends in another state -/
def OkTo (K : PySem.W.Frag) (H : Hp) (p : Addr) (n : Nat) (Q : VK) (ts : List T) (j : Nat) : Prop := ∀ H', But1 p H H' → PaintAt K H' p n ts j → Q .non H'
/-- a step that is refused -/
def Bad (H : Hp) (Q : VK) (x : Str) : Prop := ∀ H', Same H H' → Q (.str (word x)) H'
def spDo (K : PySem.W.Frag) : Sp := fun vs H Q _ => ∃ (p : Addr) (n : Nat) (ts : List T) (i : Nat), 
  (PaintAt K H p n ts i ∧ i < 50 ∧ ((∃ (b : Addr) (l tp w h wo : Int), vs = [.ref p, .int 0, .ref b, .int wo] ∧ SqT K H b [.int l, .int tp, .int w, .int h] ∧ (boxOk n l tp w h = false → Bad H Q "BadBox") ∧ (boxOk n l tp w h = true → worOk wo = false → Bad H Q "NoPicture") ∧
      (boxOk n l tp w h = true → worOk wo = true → ∀ t, ts[i]? = some t → OkTo K H p n Q (ts.take (i + 1) ++ [fillP n t l tp w h wo]) (i + 1))) ∨
    (∃ (b : Addr) (l tp w h wo : Int), vs = [.ref p, .int 1, .ref b, .int wo] ∧ SqT K H b [.int l, .int tp, .int w, .int h] ∧ (spotOk n l tp = false → Bad H Q "NoSpot") ∧ (spotOk n l tp = true → worOk wo = false → Bad H Q "NoPicture") ∧
      (spotOk n l tp = true → worOk wo = true → ∀ t, ts[i]? = some t → OkTo K H p n Q (ts.take (i + 1) ++ [fillP n t l tp 1 1 wo]) (i + 1))) ∨
    (∃ (one : V) (way : Int), vs = [.ref p, .int 2, one, .int way] ∧ (wayOk way = false → Bad H Q "NoSpot") ∧ (wayOk way = true → ∀ t, ts[i]? = some t → OkTo K H p n Q (ts.take (i + 1) ++ [byWay way t]) (i + 1))) ∨
    (vs = [.ref p, .int 3, .non, .non] ∧ (i = 0 → Bad H Q "NothingDone") ∧ (∀ j, i = j + 1 → OkTo K H p n Q ts j)) ∨
    (vs = [.ref p, .int 4, .non, .non] ∧ (i + 1 = ts.length → Bad H Q "NothingDone") ∧ (i + 1 < ts.length → OkTo K H p n Q ts (i + 1))))) ∨
  (∃ (v : V) (d : PyData), vs = [.ref p, .int 5, v, .non] ∧ Dp K H v d ∧ isP d = false ∧ Bad H Q "NoPicture")
/-- behind the try -/
def tRestDo (K : PySem.W.Frag) : TS := tSeq (tIfS (tB (tIsN (tVar 4))) (tRet (tVar 5)) tNext) (tRet (tCall (spWord K) [] E0 (tCons (tVar 4) tNil)))
theorem rest_fine {Q : VK} {N : L2.St → Hp → Prop} {a0 a1 a2 a3 a6 : Option V} {H : Hp} (q : Q .non H) : tRestDo K { nx := N, rt := Q } [a0, a1, a2, a3, some .non, some .non, a6] H := ⟨_, rfl, _, rfl, iteT ⟨_, rfl, q⟩⟩
theorem rest_bad {Q : VK} {N : L2.St → Hp → Prop} {a0 a1 a2 a3 a5 a6 : Option V} {H H' : Hp} {a : Addr} {x : Str} (hx : x ∈ raisd) (ha : H' a = none) (e : Same H H') (q : Bad H Q x) : tRestDo K { nx := N, rt := Q } [a0, a1, a2, a3, some (.ref a), a5, a6] (upd H' a (exO a (.ref (He.ga K x)))) :=
  ⟨_, rfl, _, rfl, iteF ⟨_, rfl, a, x, rfl, hx, upd_same, fun H3 s3 => q H3 (Same.trans e (Same.trans (same_upd ha) s3))⟩⟩
theorem exc_do {Q : VK} {N : L2.St → Hp → Prop} {a0 a1 a2 a3 a4 a5 a6 : Option V} {H H' : Hp} {x : Str} (hx : x ∈ raisd) (he : PySem.W.exmOne K (.ref (He.ga K x)) (.ref (He.ga K "FourError")) = some true) (e : Same H H') (q : Bad H Q x) :
    wAsT K (.ref (He.ga K "FourError")) 6 (fun _ _ _ => tAsg (tVar 6) (gName 4)) (fun _ _ _ _ => False) { nx := tRestDo K { nx := N, rt := Q }, rt := Q } (.ref (He.ga K x)) none [a0, a1, a2, a3, a4, a5, a6] H' :=
  ⟨true, he, fun _ a ha => ⟨_, rfl, rfl, rest_bad hx ha e q⟩, fun z => by cases z⟩
theorem h_law_do (tx : Tx K mg) : Has P w K mg base CX0 12 "_law_do" ["_law_painter", "_law_what", "_law_one", "_law_other"] (spDo K) := by
  obtain ⟨fd, F⟩ := tx.fn_law_do
  refine has_n (st := s_law_do) F tx.g_law_do sc_law_do (fun _ _ _ _ _ _ us hl => match us, hl with | [_, _, _, _], _ => rfl) (fun vs H Q E h => ?_) (fun cdv A outer s H vs Q E hr h => ?_)
  · obtain ⟨p, n, ts, i, ⟨_, _, ⟨b, l, tp, w, h, wo, rfl, _⟩ | ⟨b, l, tp, w, h, wo, rfl, _⟩ | ⟨one, way, rfl, _⟩ | ⟨rfl, _⟩ | ⟨rfl, _⟩⟩ | ⟨v, d, rfl, _⟩⟩ := h <;> rfl
  · have nd := sc_law_do.nd
    refine ⟨_, pss_cons (ps_set (i := 4) nd rfl (Or.inl rfl) pe_non)
      (pss_cons (ps_set (i := 5) nd rfl (Or.inl rfl) pe_non)
      (pss_cons (ps_try_asT (i := 6) (c := .ref (He.ga K "FourError")) (Wout := fun _ _ _ _ => False) rfl rfl rfl nd rfl rfl ⟨rfl, by decide, .inl tx.g_FourError⟩ takes_no
        (fun W pn xe tk ow => pss_one (ps_if (pt_cmpR op_eq (pv 1) pe_int (nomark _))
            (pss_one (ps_set (i := 5) nd rfl (Or.inl rfl) (pe_mC (C := He.ga K "Painter") (sp := spPFill K) (E := WE W) rfl (h_Pfill tx) (hr.mono (by decide)) (fun σ => passAt tk σ) tx.cP tx.m_fill (pv 0) (pa_cons (pv 2) (pa_cons (pv 3) pa_nil)))))
          (pss_one (ps_if (pt_cmpR op_eq (pv 1) pe_int (nomark _))
            (pss_one (ps_set (i := 5) nd rfl (Or.inl rfl) (pe_mC (C := He.ga K "Painter") (sp := spPDot K) (E := WE W) rfl (h_Pdot tx) (hr.mono (by decide)) (fun σ => passAt tk σ) tx.cP tx.m_dot (pv 0) (pa_cons (pe_ix (r := rIxT K) ix_tup (pv 2) pe_int (fun _ _ => rfl)) (pa_cons (pe_ix (r := rIxT K) ix_tup (pv 2) pe_int (fun _ _ => rfl)) (pa_cons (pv 3) pa_nil))))))
          (pss_one (ps_if (pt_cmpR op_eq (pv 1) pe_int (nomark _))
            (pss_one (ps_set (i := 5) nd rfl (Or.inl rfl) (pe_mC (C := He.ga K "Painter") (sp := spPTurn K) (E := WE W) rfl (h_Pturn tx) (hr.mono (by decide)) (fun σ => passAt tk σ) tx.cP tx.m_turn (pv 0) (pa_cons (pv 3) pa_nil))))
          (pss_one (ps_if (pt_cmpR op_eq (pv 1) pe_int (nomark _))
            (pss_one (ps_set (i := 5) nd rfl (Or.inl rfl) (pe_mC0 (C := He.ga K "Painter") (sp := spUndo K) (E := WE W) rfl (h_Pundo tx) (hr.mono (by decide)) (fun σ => passAt tk σ) tx.cP tx.m_undo (pv 0))))
          (pss_one (ps_set (i := 5) nd rfl (Or.inl rfl) (pe_ifExp (pt_cmpR op_eq (pv 1) pe_int (nomark _)) (pe_mC0 (C := He.ga K "Painter") (sp := spRedo K) (E := WE W) rfl (h_Predo tx) (hr.mono (by decide)) (fun σ => passAt tk σ) tx.cP tx.m_redo (pv 0))
            (pe_makeC (C := He.ga K "Painter") (sp := spPInit K) (E := WE W) rfl tx.mkP (h_Pinit tx) (hr.mono (by decide)) tx.g_Painter (fun σ => passAt tk σ) (pa_cons (pv 2) pa_nil)))))))))))))
        (fun a oe cls d pn hz hd => pss_one (ps_set (i := 4) nd rfl (Or.inl rfl) (pv 6))))
      (pss_cons (ps_if (pt_cmp (pc_isN (pv 4))) (pss_one (ps_ret (pv 5))) pss_nil)
      (pss_one (ps_ret (pe_h0 (h_law_word tx) (hr.mono (by decide)) (pa_cons (pv 4) pa_nil))))))), ?_⟩
    have xP : ("NoPicture" : Str) ∈ raisd := by decide +kernel
    have xS : ("NoSpot" : Str) ∈ raisd := by decide +kernel
    have xB : ("BadBox" : Str) ∈ raisd := by decide +kernel
    have xN : ("NothingDone" : Str) ∈ raisd := by decide +kernel
    obtain ⟨p, n, ts, i, ⟨hP, hi, ⟨b, l, tp, wd, ht, wo, rfl, hb, k1, k2, k3⟩ | ⟨b, l, tp, wd, ht, wo, rfl, hb, k1, k2, k3⟩ | ⟨one, way, rfl, k1, k2⟩ | ⟨rfl, k1, k2⟩ | ⟨rfl, k1, k2⟩⟩ | ⟨v, d, rfl, hd, hp, k1⟩⟩ := h
    · obtain ⟨dx, l0, us, h1, _, _⟩ := hP.at_
      refine ⟨_, rfl, rfl, _, rfl, iteT ?_⟩
      exact ⟨_, rfl, p, dx, _, rfl, h1, pf_no _ _ (by decide +kernel) (by decide +kernel), _, rfl, _, rfl, p, n, ts, i, b, l, tp, wd, ht, wo, rfl, hP, hi, hb, fun e H' s' => exc_do xB tx.e_BadBox s' (k1 e), fun e ew H' s' => exc_do xP tx.e_NoPicture s' (k2 e ew), fun e ew t H' et b1 hP' => rest_fine (k3 e ew t et H' b1 hP')⟩
    · obtain ⟨dx, l0, us, h1, _, _⟩ := hP.at_
      refine ⟨_, rfl, rfl, _, rfl, iteF ⟨_, rfl, rfl, _, rfl, iteT ?_⟩⟩
      exact ⟨_, rfl, p, dx, _, rfl, h1, pf_no _ _ (by decide +kernel) (by decide +kernel), _, rfl, b, _, _, .int l, rfl, rfl, hb, rfl, _, rfl, b, _, _, .int tp, rfl, rfl, hb, rfl, _, rfl, p, n, ts, i, l, tp, wo, rfl, hP, hi, fun e H' s' => exc_do xS tx.e_NoSpot s' (k1 e), fun e ew H' s' => exc_do xP tx.e_NoPicture s' (k2 e ew), fun e ew t H' et b1 hP' => rest_fine (k3 e ew t et H' b1 hP')⟩
    · obtain ⟨dx, l0, us, h1, _, _⟩ := hP.at_
      refine ⟨_, rfl, rfl, _, rfl, iteF ⟨_, rfl, rfl, _, rfl, iteF ⟨_, rfl, rfl, _, rfl, iteT ?_⟩⟩⟩
      exact ⟨_, rfl, p, dx, _, rfl, h1, pf_no _ _ (by decide +kernel) (by decide +kernel), _, rfl, p, n, ts, i, way, rfl, hP, hi, fun e H' s' => exc_do xS tx.e_NoSpot s' (k1 e), fun e t H' et b1 hP' => rest_fine (k2 e t et H' b1 hP')⟩
    · obtain ⟨dx, l0, us, h1, _, _⟩ := hP.at_
      refine ⟨_, rfl, rfl, _, rfl, iteF ⟨_, rfl, rfl, _, rfl, iteF ⟨_, rfl, rfl, _, rfl, iteF ⟨_, rfl, rfl, _, rfl, iteT ?_⟩⟩⟩⟩
      exact ⟨_, rfl, p, dx, _, rfl, h1, pf_no _ _ (by decide +kernel) (by decide +kernel), p, n, ts, i, rfl, hP, fun e => exc_do xN tx.e_NothingDone (Same.refl _) (k1 e), fun j e H' b1 hP' => rest_fine (k2 j e H' b1 hP')⟩
    · obtain ⟨dx, l0, us, h1, _, _⟩ := hP.at_
      refine ⟨_, rfl, rfl, _, rfl, iteF ⟨_, rfl, rfl, _, rfl, iteF ⟨_, rfl, rfl, _, rfl, iteF ⟨_, rfl, rfl, _, rfl, iteF ⟨_, rfl, rfl, _, rfl, iteT ?_⟩⟩⟩⟩⟩
      exact ⟨_, rfl, p, dx, _, rfl, h1, pf_no _ _ (by decide +kernel) (by decide +kernel), p, n, ts, i, rfl, hP, fun e => exc_do xN tx.e_NothingDone (Same.refl _) (k1 e), fun e H' b1 hP' => rest_fine (k2 e H' b1 hP')⟩
    · refine ⟨_, rfl, rfl, _, rfl, iteF ⟨_, rfl, rfl, _, rfl, iteF ⟨_, rfl, rfl, _, rfl, iteF ⟨_, rfl, rfl, _, rfl, iteF ⟨_, rfl, rfl, _, rfl, iteF ?_⟩⟩⟩⟩⟩
      refine ⟨_, rfl, fun x dx hx hdx ne => ?_⟩
      have s1 : Same H (upd (upd H dx (.own x)) x (.ins (He.ga K "Painter") dx [])) := same_over (same_upd hdx) hx
      refine ⟨x, dx, v, d, rfl, upd_same, dp_same s1 hd, fun _ H' s' => exc_do xP tx.e_NoPicture (Same.trans s1 s') k1, fun n' t' e hn' ok' => ?_⟩
      rw [e, isP_of hn' ok'] at hp
      cases hp
end
end Ff
set_option Elab.async false
set_option linter.all false
set_option maxRecDepth 100000
set_option maxHeartbeats 4000000
namespace Ff
open PySem PySem.Spec PyProof.Rows L2
/-! ### the law's own state -/
def StateAt (K : PySem.W.Frag) (H : Hp) (s : Addr) (n : Nat) (ts : List T) (i : Nat) : Prop := ∃ l vs, H s = some (.lst [.ref l, .int i]) ∧ H l = some (.lst vs) ∧ Pics K H n vs ts
def But2 (p s : Addr) (H H' : Hp) : Prop := ∀ a o, a ≠ p → a ≠ s → H a = some o → H' a = some o
theorem But2.of {p s : Addr} {H H' : Hp} (e : Same H H') : But2 p s H H' := fun a o _ _ z => e a o z
theorem But2.of1 {p s : Addr} {H H' : Hp} (e : But1 p H H') : But2 p s H H' := fun a o n _ z => e a o n z
theorem But2.ofS {p s : Addr} {H : Hp} {o : HO} : But2 p s H (upd H s o) := fun a u _ n z => by
  rw [upd_ne n]
  exact z
theorem But2.trans {p s : Addr} {H H1 H2 : Hp} (a : But2 p s H H1) (b : But2 p s H1 H2) : But2 p s H H2 := fun c o n1 n2 z => b c o n1 n2 (a c o n1 n2 z)
theorem pic_ne {K : PySem.W.Frag} {H : Hp} {s l l' : Addr} {i : Int} {n : Nat} {vs : List V} {ts : List T} (hs : H s = some (.lst [.ref l, .int i])) (hl : H l' = some (.lst vs)) (hp : Pics K H n vs ts) : l' ≠ s := fun z => by
  rw [z, hs] at hl
  cases hl
  obtain ⟨t, _, d⟩ := hp.2 1 _ rfl
  obtain ⟨p, w, e, _⟩ := dp_pd d
  cases e
theorem paint_setS {K : PySem.W.Frag} {H : Hp} {p s l : Addr} {k : Int} {n : Nat} {ts : List T} {i : Nat} {xs : List V} (hs : H s = some (.lst [.ref l, .int k])) (h : PaintAt K H p n ts i) : PaintAt K (upd H s (.lst xs)) p n ts i := by
  obtain ⟨a, b, c, d, dx, l', vs, h1, h2, h3⟩ := h
  refine ⟨a, b, c, d, dx, l', vs, ?_, ?_, h3.mono fun _ _ z => but_sqT hs but_upd z⟩
  · rw [upd_ne (ne_of h1 hs (by intro z; cases z))]
    exact h1
  · rw [upd_ne (pic_ne hs h2 h3)]
    exact h2
theorem StateAt.same {K : PySem.W.Frag} {H H' : Hp} {s : Addr} {n : Nat} {ts : List T} {i : Nat} (e : Same H H') (h : StateAt K H s n ts i) : StateAt K H' s n ts i := by
  obtain ⟨l, vs, h1, h2, h3⟩ := h
  exact ⟨l, vs, e _ _ h1, e _ _ h2, h3.mono fun _ _ z => same_sqT e z⟩
theorem StateAt.but1 {K : PySem.W.Frag} {H H' : Hp} {s p C dx : Addr} {fs : List (Str × V)} {n : Nat} {ts : List T} {i : Nat} (hp : H p = some (.ins C dx fs)) (e : But1 p H H') (h : StateAt K H s n ts i) : StateAt K H' s n ts i := by
  obtain ⟨l, vs, h1, h2, h3⟩ := h
  exact ⟨l, vs, e _ _ (ne_of h1 hp (by intro z; cases z)) h1, e _ _ (ne_of h2 hp (by intro z; cases z)) h2, h3.mono fun _ _ z => but1_sqT hp e z⟩
theorem state_move {K : PySem.W.Frag} {H : Hp} {s l : Addr} {i j : Nat} {n : Nat} {vs : List V} {ts : List T} (hs : H s = some (.lst [.ref l, .int i])) (hl : H l = some (.lst vs)) (hp : Pics K H n vs ts) : StateAt K (upd H s (.lst [.ref l, .int j])) s n ts j :=
  ⟨l, vs, upd_same, by rw [upd_ne (pic_ne hs hl hp)]; exact hl, hp.mono fun _ _ z => but_sqT hs but_upd z⟩
section
variable {P : Program} {w : World} {K : PySem.W.Frag} {mg : Str → Option Value} {base : Heap}
theorem but2_sqT {p s C dx : Addr} {fs : List (Str × V)} {acc : List V} {H H' : Hp} (hp : H p = some (.ins C dx fs)) (hs : H s = some (.lst acc)) (b : But2 p s H H') {a : Addr} {xs : List V} (h : SqT K H a xs) : SqT K H' a xs := by
  rcases h with (h | ⟨o, h⟩) | h
  · exact .inl (.inl (b _ _ (ne_of h hp (by intro z; cases z)) (ne_of h hs (by intro z; cases z)) h))
  · exact .inl (.inr ⟨o, b _ _ (ne_of h hp (by intro z; cases z)) (ne_of h hs (by intro z; cases z)) h⟩)
  · exact .inr h
def tGrow (K : PySem.W.Frag) : TS := tSeq (tAsg (tOp rCat (tSl (rSlL K) (tOp (rIxL K) (tVar 1) (tC (.int 0))) tNoPart (tPart (tOp (rI0 fun i j => .int (i + j)) (tOp (rIxL K) (tVar 1) (tC (.int 1))) (tC (.int 1))))) (tLst (tCons (tVar 10) tNil))) (gSub (tVar 1) (tC (.int 0)) rSetL))
  (tAsg (tOp (rI0 fun i j => .int (i + j)) (tOp (rIxL K) (tVar 1) (tC (.int 1))) (tC (.int 1))) (gSub (tVar 1) (tC (.int 1)) rSetL))
theorem t_grow {D : Ends} {σ : L2.St} {H : Hp} {p s b : Addr} {n : Nat} {ts : List T} {i : Nat} {v : V} {t : T} {bs : List V} (h1 : σ[1]? = some (some (.ref s))) (h10 : σ[10]? = some (some v)) (hP : PaintAt K H p n ts i) (hS : StateAt K H s n ts i) (d : Dp K H v (pd n t)) (hb : SqT K H b bs)
    (k : ∀ H', PaintAt K H' p n ts i → StateAt K H' s n (ts.take (i + 1) ++ [t]) (i + 1) → SqT K H' b bs → But2 p s H H' → D.nx σ H') : tGrow K D σ H := by
  have hs0 : sizeLine = 16777216 := sizeLine_eq
  obtain ⟨l, vs, hs, hl, hpic⟩ := hS
  obtain ⟨dx, lp, vp, hpi, _, _⟩ := hP.at_
  have hvl := hpic.1
  have hlt := hP.lt
  have hle := hP.le
  refine ⟨_, h1, s, _, _, .ref l, rfl, rfl, SqL.of hs, rfl, _, h1, s, _, _, .int i, rfl, rfl, SqL.of hs, rfl, _, _, rfl, rfl, _, rfl, l, vs, rfl, SqL.of hl, fun q hq => ?_⟩
  have ec : cutV vs none (some ((i : Int) + 1)) = vs.take (i + 1) := cut_to (k := i + 1) (by omega)
  rw [ec]
  have t1 := same_upd (o := .lst (vs.take (i + 1))) hq
  refine ⟨_, h10, (by show 1 ≤ sizeLine; omega), fun r hr => ?_⟩
  have t2 := same_upd (o := .lst [v]) hr
  refine ⟨q, r, _, _, rfl, rfl, t2 _ _ upd_same, upd_same, (by rw [List.length_take]; simp only [List.length_cons, List.length_nil]; omega), fun u hu => ?_⟩
  have t3 := same_upd (o := .lst (vs.take (i + 1) ++ [v])) hu
  have t13 := Same.trans t1 (Same.trans t2 t3)
  have wu := upd_same (H := upd (upd H q (.lst (vs.take (i + 1)))) r (.lst [v])) (a := u) (o := .lst (vs.take (i + 1) ++ [v]))
  have wp := (hpic.mono fun _ _ z => same_sqT t13 z).add (i + 1) hlt (dp_same t13 d)
  have hP3 := paint_same t13 hP
  have hs3 := t13 _ _ hs
  have hb3 := same_sqT t13 hb
  generalize upd (upd (upd H q _) r _) u _ = H3 at *
  refine ⟨_, h1, s, _, _, 0, rfl, rfl, hs3, rfl, ?_⟩
  refine ⟨_, h1, s, _, _, .int i, rfl, rfl, SqL.of upd_same, rfl, _, _, rfl, rfl, _, h1, s, _, _, 1, rfl, rfl, upd_same, rfl, ?_⟩
  rw [upd_upd]
  refine k _ (paint_setS hs3 hP3) ⟨u, _, upd_same, ?_, wp.mono fun _ _ z => but_sqT hs3 but_upd z⟩ (but_sqT hs3 but_upd hb3) (But2.trans (But2.of t13) But2.ofS)
  rw [upd_ne (pic_ne hs3 wu wp)]
  exact wu
def tIsBox (K : PySem.W.Frag) : TE := tAndV (tOp (rI0 fun i j => .bl (decide (i > j))) (tOp (rIxT K) (tVar 3) (tC (.int 2))) (tC (.int 0))) (tAndV (tOp (rI0 fun i j => .bl (decide (i > j))) (tOp (rIxT K) (tVar 3) (tC (.int 3))) (tC (.int 0)))
  (tOp (rI0 fun i j => .bl (decide (i ≤ j))) (tOp (rI0 fun i j => .int (i + j)) (tOp (rIxT K) (tVar 3) (tC (.int 0))) (tOp (rIxT K) (tVar 3) (tC (.int 2)))) (tVar 5)))
theorem t_isBox {σ : L2.St} {H : Hp} {Q : VK} {b : Addr} {l tp w h sd : Int} (h3 : σ[3]? = some (some (.ref b))) (h5 : σ[5]? = some (some (.int sd))) (hb : SqT K H b [.int l, .int tp, .int w, .int h])
    (q : Q (.bl (decide (w > 0) && (decide (h > 0) && decide (l + w ≤ sd)))) H) : tIsBox K σ H Q := by
  refine ⟨_, h3, b, _, _, .int w, rfl, rfl, hb, rfl, _, _, rfl, rfl, _, rfl, ?_⟩
  by_cases c1 : w > 0
  · rw [decide_eq_true c1] at q ⊢
    refine iteT ⟨_, h3, b, _, _, .int h, rfl, rfl, hb, rfl, _, _, rfl, rfl, _, rfl, ?_⟩
    by_cases c2 : h > 0
    · rw [decide_eq_true c2] at q ⊢
      exact iteT ⟨_, h3, b, _, _, .int l, rfl, rfl, hb, rfl, _, h3, b, _, _, .int w, rfl, rfl, hb, rfl, _, _, rfl, rfl, _, h5, _, _, rfl, rfl, q⟩
    · rw [decide_eq_false c2] at q ⊢
      exact iteF q
  · rw [decide_eq_false c1] at q ⊢
    exact iteF q
theorem pow_cast (n : Nat) : ((2 ^ n : Nat) : Int) = (2 : Int) ^ n := by
  induction n with
  | zero => rfl
  | succ n ih =>
    rw [Nat.pow_succ, Int.pow_succ, ← ih]
    omega
theorem box_is {n l tp w h : Nat} : boxOk n l tp w h = ((decide ((w : Int) > 0) && (decide ((h : Int) > 0) && decide ((l : Int) + w ≤ ((2 ^ n : Nat) : Int)))) && decide ((tp : Int) + h ≤ ((2 ^ n : Nat) : Int))) := by
  unfold boxOk
  rw [pow_cast]
  generalize (2 : Int) ^ n = P
  rw [Bool.eq_iff_iff]
  simp only [Bool.and_eq_true, decide_eq_true_eq]
  omega
theorem spot_is {n x y : Nat} : spotOk n x y = (decide ((x : Int) < ((2 ^ n : Nat) : Int)) && decide ((y : Int) < ((2 ^ n : Nat) : Int))) := by
  unfold spotOk
  rw [pow_cast]
  generalize (2 : Int) ^ n = P
  rw [Bool.eq_iff_iff]
  simp only [Bool.and_eq_true, decide_eq_true_eq]
  omega
theorem way_is {wo : Nat} : wayOk wo = !decide ((wo : Int) > 7) := by
  unfold wayOk
  rw [Bool.eq_iff_iff]
  simp only [Bool.and_eq_true, decide_eq_true_eq, Bool.not_eq_true', decide_eq_false_iff_not]
  omega
theorem wor_is {wo : Nat} : worOk wo = !decide ((wo : Int) > 9) := by
  unfold worOk
  rw [Bool.eq_iff_iff]
  simp only [Bool.and_eq_true, decide_eq_true_eq, Bool.not_eq_true', decide_eq_false_iff_not]
  omega
/-! ### _law_turn -/
theorem sc_law_turn : FnScope ["_law_painter", "_law_state", "_law_what", "_law_box", "_law_worth", "_law_side", "_law_here", "_law_to", "_law_due", "_law_is_box", "_law_new"] ["_law_painter", "_law_state", "_law_what", "_law_box", "_law_worth"] (defScope s_law_turn) := ⟨rfl, rfl, rfl, by decide +kernel, rfl, by decide +kernel, by decide +kernel⟩
def spLTurn (K : PySem.W.Frag) : Sp := fun vs H Q _ => ∃ (p s b : Addr) (what : Nat) (n : Nat) (ts : List T) (i : Nat) (l tp w h wo : Nat), vs = [.ref p, .ref s, .int what, .ref b, .int wo] ∧ what ≤ 4 ∧ PaintAt K H p n ts i ∧ StateAt K H s n ts i ∧ i < 50 ∧ SqT K H b [.int l, .int tp, .int w, .int h] ∧
  ∀ H' ts' i', i' ≤ i + 1 → PaintAt K H' p n ts' i' → StateAt K H' s n ts' i' → But2 p s H H' → Q (.bl true) H'
theorem h_law_turn (tx : Tx K mg) : Has P w K mg base CX0 13 "_law_turn" ["_law_painter", "_law_state", "_law_what", "_law_box", "_law_worth"] (spLTurn K) := by
  obtain ⟨fd, F⟩ := tx.fn_law_turn
  refine has_n (st := s_law_turn) F tx.g_law_turn sc_law_turn (fun _ _ _ _ _ _ us hl => match us, hl with | [_, _, _, _, _], _ => rfl) (fun vs H Q E h => ?_) (fun cdv A outer s H vs Q E hr h => ?_)
  · obtain ⟨p, s, b, what, n, ts, i, l, tp, w, h, wo, rfl, _⟩ := h
    rfl
  · obtain ⟨p, s, b, what, n, ts, i, l, tp, wd, ht, wo, rfl, hwh, hP, hS, hi, hb, kq⟩ := h
    have nd := sc_law_turn.nd
    have hs0 : sizeLine = 16777216 := sizeLine_eq
    refine ⟨_, pss_cons (ps_set (i := 5) nd rfl (Or.inl rfl) (pe_callB call_len_seq (by rfl) tx.z_len b_len (pa_cons (pe_h0 (h_law_rows tx) (hr.mono (by decide)) (pa_cons (pe_ix ix_list (pe_ix ix_list (pv 1) pe_int (fun _ _ => rfl)) pe_int (fun _ _ => rfl)) pa_nil)) pa_nil)))
      (pss_cons (ps_set (i := 6) nd rfl (Or.inl rfl) (pe_ix ix_list (pe_ix ix_list (pv 1) pe_int (fun _ _ => rfl)) (pe_ix ix_list (pv 1) pe_int (fun _ _ => rfl)) (fun _ _ => rfl)))
      (pss_cons (ps_if (pt_cmpR op_gt (pv 2) pe_int (nomark _))
        (pss_cons (ps_set (i := 7) nd rfl (Or.inl rfl) (pe_op op_add (pe_ix ix_list (pv 1) pe_int (fun _ _ => rfl)) (pe_ifExp (pt_cmpR op_eq (pv 2) pe_int (nomark _)) pe_int (pe_un un_neg pe_int))))
        (pss_cons (ps_if (pt_not (pt_chain op_le op_lt pe_int (pv 7) (pe_callB call_len_seq (by rfl) tx.z_len b_len (pa_cons (pe_ix ix_list (pv 1) pe_int (fun _ _ => rfl)) pa_nil))))
          (pss_one (ps_ret (pe_cmpR op_eq (pe_h0 (h_law_do tx) hr (pa_cons (pv 0) (pa_cons (pv 2) (pa_cons pe_non (pa_cons pe_non pa_nil))))) pe_str (nomark _)))) pss_nil)
        (pss_cons (ps_asg (pv 7) (pg_sub (pv 1) pe_int set_list))
        (pss_one (ps_ret (pe_cmp (pc_isN (pe_h0 (h_law_do tx) hr (pa_cons (pv 0) (pa_cons (pv 2) (pa_cons pe_non (pa_cons pe_non pa_nil)))))))))))) pss_nil)
      (pss_cons (ps_set (i := 8) nd rfl (Or.inl rfl) pe_non)
      (pss_cons (ps_set (i := 9) nd rfl (Or.inl rfl) (pe_and (pe_cmpR op_gt (pe_ix ix_tup (pv 3) pe_int (fun _ _ => rfl)) pe_int (nomark _)) (pe_and (pe_cmpR op_gt (pe_ix ix_tup (pv 3) pe_int (fun _ _ => rfl)) pe_int (nomark _))
        (pe_one (pe_cmpR op_le (pe_op op_add (pe_ix ix_tup (pv 3) pe_int (fun _ _ => rfl)) (pe_ix ix_tup (pv 3) pe_int (fun _ _ => rfl))) (pv 5) (nomark _))))))
      (pss_cons (ps_if (PW.pt (pw_and (pt_cmpR op_eq (pv 2) pe_int (nomark _)) (pw_and1 (pt_not (PW.pt (pw_and (pt_val (pv 9)) (pw_and1 (pt_cmpR op_le (pe_op op_add (pe_ix ix_tup (pv 3) pe_int (fun _ _ => rfl)) (pe_ix ix_tup (pv 3) pe_int (fun _ _ => rfl))) (pv 5) (nomark _)))))))))
          (pss_one (ps_set (i := 8) nd rfl (Or.inl rfl) pe_str))
        (pss_one (ps_if (PW.pt (pw_or (PW.pt (pw_and (pt_cmpR op_eq (pv 2) pe_int (nomark _)) (pw_and1 (pt_not (PW.pt (pw_and (pt_cmpR op_lt (pe_ix ix_tup (pv 3) pe_int (fun _ _ => rfl)) (pv 5) (nomark _)) (pw_and1 (pt_cmpR op_lt (pe_ix ix_tup (pv 3) pe_int (fun _ _ => rfl)) (pv 5) (nomark _)))))))))
            (pw_or1 (PW.pt (pw_and (pt_cmpR op_eq (pv 2) pe_int (nomark _)) (pw_and1 (pt_cmpR op_gt (pv 4) pe_int (nomark _))))))))
          (pss_one (ps_set (i := 8) nd rfl (Or.inl rfl) pe_str))
        (pss_one (ps_if (pt_cmpR op_gt (pv 4) pe_int (nomark _)) (pss_one (ps_set (i := 8) nd rfl (Or.inl rfl) pe_str)) pss_nil)))))
      (pss_cons (ps_if (pt_cmp (pc_isN (pv 8)))
        (pss_cons (ps_set (i := 10) nd rfl (Or.inl rfl) (pe_ifExp (pt_cmpR op_eq (pv 2) pe_int (nomark _)) (pe_h (E := E0) (h_filled tx) (hr.mono (by decide)) passL (pa_cons (pv 6) (pa_cons (pv 3) (pa_cons (pv 4) pa_nil)))) pe_non))
        (pss_cons (ps_if (pt_cmpR op_gt (pv 2) pe_int (nomark _)) (pss_one (ps_set (i := 10) nd rfl (Or.inl rfl) (pe_ifExp (pt_cmpR op_eq (pv 2) pe_int (nomark _))
            (pe_h (E := E0) (h_put tx) (hr.mono (by decide)) passL (pa_cons (pv 6) (pa_cons (pe_ix ix_tup (pv 3) pe_int (fun _ _ => rfl)) (pa_cons (pe_ix ix_tup (pv 3) pe_int (fun _ _ => rfl)) (pa_cons (pv 4) pa_nil)))))
            (pe_h (E := E0) (h_by_way tx) (hr.mono (by decide)) passL (pa_cons (pv 6) (pa_cons (pv 4) pa_nil)))))) pss_nil)
        (pss_cons (ps_asg (pe_op op_cat (pe_slice sl_list (pe_ix ix_list (pv 1) pe_int (fun _ _ => rfl)) po_none (po_some (pe_op op_add (pe_ix ix_list (pv 1) pe_int (fun _ _ => rfl)) pe_int))) (pe_lst (pa_cons (pv 10) pa_nil))) (pg_sub (pv 1) pe_int set_list))
        (pss_one (ps_asg (pe_op op_add (pe_ix ix_list (pv 1) pe_int (fun _ _ => rfl)) pe_int) (pg_sub (pv 1) pe_int set_list)))))) pss_nil)
      (pss_one (ps_ret (pe_cmpR op_eq (pe_h0 (h_law_do tx) hr (pa_cons (pv 0) (pa_cons (pv 2) (pa_cons (pv 3) (pa_cons (pv 4) pa_nil))))) (pv 8) (nomark _)))))))))), ?_⟩
    obtain ⟨l2, vs2, hs, hl, hpic⟩ := hS
    obtain ⟨v0, t0, e0, f0, d0⟩ := hpic.get (i := 0) (Nat.lt_of_le_of_lt (Nat.zero_le _) hP.lt)
    obtain ⟨v, t, ev, ft, dv⟩ := hpic.get hP.lt
    have okt := hP.ok t (List.mem_of_getElem? ft)
    refine ⟨_, rfl, s, _, _, .ref l2, rfl, rfl, SqL.of hs, rfl, l2, _, _, v0, rfl, rfl, SqL.of hl, atI_nat (j := 0) e0, v0, n, t0, rfl, hP.n3, hP.ok t0 (List.mem_of_getElem? f0), d0, fun H1 lr xs s1 hlr hw => ?_⟩
    refine ⟨lr, xs, rfl, .inr hlr, ?_⟩
    have hx : xs.length = 2 ^ n := by rw [hw.1, rows_length]
    rw [hx]
    have hs1 := s1 _ _ hs
    have hl1 := s1 _ _ hl
    have hP1 := paint_same s1 hP
    have dv1 := dp_same s1 dv
    have hb1 := same_sqT s1 hb
    have hpic1 : Pics K H1 n vs2 ts := hpic.mono fun _ _ z => same_sqT s1 z
    have hS1 : StateAt K H1 s n ts i := ⟨l2, vs2, hs1, hl1, hpic1⟩
    have hvl := hpic.1
    have wN : word "NothingDone" = "nothing done" := by decide +kernel
    refine ⟨_, rfl, s, _, _, .ref l2, rfl, rfl, SqL.of hs1, rfl, _, rfl, s, _, _, .int i, rfl, rfl, SqL.of hs1, rfl, l2, _, _, v, rfl, rfl, SqL.of hl1, atI_nat ev, ?_⟩
    refine ⟨_, rfl, _, _, rfl, rfl, _, rfl, ?_⟩
    have cases5 : what = 3 ∨ what = 4 ∨ what = 0 ∨ what = 1 ∨ what = 2 := by omega
    rcases cases5 with rfl | rfl | rfl | rfl | rfl
    · refine iteT ⟨_, rfl, s, _, _, .int i, rfl, rfl, SqL.of hs1, rfl, _, rfl, rfl, _, rfl, iteF ⟨_, rfl, _, _, rfl, rfl, ?_⟩⟩
      refine ⟨_, rfl, _, _, rfl, rfl, _, rfl, ?_⟩
      cases i with
      | zero =>
        refine iteF ⟨_, rfl, iteT ?_⟩
        refine ⟨_, rfl, _, rfl, p, n, ts, 0, .inl ⟨hP1, hi, .inr (.inr (.inr (.inl ⟨rfl, fun _ H' s' => ⟨rfl, ?_⟩, fun j e => by omega⟩)))⟩⟩
        rw [wN]
        exact kq H' ts 0 (by omega) (paint_same s' hP1) (hS1.same s') (But2.of (Same.trans s1 s'))
      | succ j =>
        have ej : (((j + 1 : Nat) : Int) + -1) = (j : Int) := by omega
        have c1 : decide ((0 : Int) ≤ ((j + 1 : Nat) : Int) + -1) = true := decide_eq_true (by omega)
        rw [c1]
        refine iteT ⟨_, rfl, s, _, _, .ref l2, rfl, rfl, SqL.of hs1, rfl, l2, vs2, rfl, .inl (SqL.of hl1), _, _, rfl, rfl, _, rfl, ?_⟩
        have c2 : decide (((j + 1 : Nat) : Int) + -1 < ((vs2.length : Nat) : Int)) = true := decide_eq_true (by have := hP.lt; omega)
        rw [c2]
        refine iteF ⟨_, rfl, _, rfl, s, _, _, 1, rfl, rfl, hs1, rfl, ?_⟩
        have hP2 : PaintAt K (upd H1 s (.lst [.ref l2, .int (((j + 1 : Nat) : Int) + -1)])) p n ts (j + 1) := paint_setS hs1 hP1
        have hS2 : StateAt K (upd H1 s (.lst [.ref l2, .int (((j + 1 : Nat) : Int) + -1)])) s n ts j := by
          rw [ej]
          exact state_move hs1 hl1 hpic1
        obtain ⟨dx, _, _, hpi, _, _⟩ := hP2.at_
        refine ⟨_, rfl, _, rfl, p, n, ts, j + 1, .inl ⟨hP2, hi, .inr (.inr (.inr (.inl ⟨rfl, fun e => by omega, fun j' e H' b1 hP' => ?_⟩)))⟩⟩
        obtain rfl : j = j' := by omega
        exact kq H' ts j (by omega) hP' (hS2.but1 hpi b1) (But2.trans (But2.of s1) (But2.trans But2.ofS (But2.of1 b1)))
    · refine iteT ⟨_, rfl, s, _, _, .int i, rfl, rfl, SqL.of hs1, rfl, _, rfl, rfl, _, rfl, iteT ⟨_, _, rfl, rfl, ?_⟩⟩
      refine ⟨_, rfl, _, _, rfl, rfl, _, rfl, ?_⟩
      have c1 : decide ((0 : Int) ≤ (i : Int) + 1) = true := decide_eq_true (by omega)
      rw [c1]
      refine iteT ⟨_, rfl, s, _, _, .ref l2, rfl, rfl, SqL.of hs1, rfl, l2, vs2, rfl, .inl (SqL.of hl1), _, _, rfl, rfl, _, rfl, ?_⟩
      by_cases c : i + 1 < ts.length
      · have c2 : decide ((i : Int) + 1 < ((vs2.length : Nat) : Int)) = true := decide_eq_true (by omega)
        rw [c2]
        refine iteF ⟨_, rfl, _, rfl, s, _, _, 1, rfl, rfl, hs1, rfl, ?_⟩
        have hP2 : PaintAt K (upd H1 s (.lst [.ref l2, .int ((i : Int) + 1)])) p n ts i := paint_setS hs1 hP1
        have hS2 : StateAt K (upd H1 s (.lst [.ref l2, .int ((i : Int) + 1)])) s n ts (i + 1) := state_move (j := i + 1) hs1 hl1 hpic1
        obtain ⟨dx, _, _, hpi, _, _⟩ := hP2.at_
        refine ⟨_, rfl, _, rfl, p, n, ts, i, .inl ⟨hP2, hi, .inr (.inr (.inr (.inr ⟨rfl, fun e => by omega, fun e H' b1 hP' => ?_⟩)))⟩⟩
        exact kq H' ts (i + 1) (by omega) hP' (hS2.but1 hpi b1) (But2.trans (But2.of s1) (But2.trans But2.ofS (But2.of1 b1)))
      · have c2 : decide ((i : Int) + 1 < ((vs2.length : Nat) : Int)) = false := decide_eq_false (by omega)
        rw [c2]
        have hlt := hP.lt
        refine iteT ⟨_, rfl, _, rfl, p, n, ts, i, .inl ⟨hP1, hi, .inr (.inr (.inr (.inr ⟨rfl, fun _ H' s' => ⟨rfl, ?_⟩, fun e => absurd e c⟩)))⟩⟩
        rw [wN]
        exact kq H' ts i (by omega) (paint_same s' hP1) (hS1.same s') (But2.of (Same.trans s1 s'))
    · have wB : word "BadBox" = "bad box" := by decide +kernel
      have wP : word "NoPicture" = "no picture" := by decide +kernel
      refine iteF (t_isBox (h := ht) rfl rfl hb1 ?_)
      have eb := box_is (n := n) (l := l) (tp := tp) (w := wd) (h := ht)
      have ew := wor_is (wo := wo)
      generalize (decide ((wd : Int) > 0) && (decide ((ht : Int) > 0) && decide ((l : Int) + wd ≤ ((2 ^ n : Nat) : Int)))) = B at *
      refine ⟨_, rfl, rfl, _, rfl, iteT ⟨_, rfl, _, rfl, ?_⟩⟩
      cases B with
      | false =>
        refine iteF (iteT ⟨_, rfl, _, rfl, iteF ?_⟩)
        refine ⟨_, rfl, _, rfl, _, rfl, _, rfl, p, n, ts, i, .inl ⟨hP1, hi, .inl ⟨b, l, tp, wd, ht, wo, rfl, hb1, fun _ H' s' => ⟨_, rfl, rfl, ?_⟩, fun e => (by rw [eb] at e; cases e), fun e => (by rw [eb] at e; cases e)⟩⟩⟩
        rw [wB]
        exact kq H' ts i (by omega) (paint_same s' hP1) (hS1.same s') (But2.of (Same.trans s1 s'))
      | true =>
        refine iteT ⟨_, rfl, b, _, _, .int tp, rfl, rfl, hb1, rfl, _, rfl, b, _, _, .int ht, rfl, rfl, hb1, rfl, _, _, rfl, rfl, _, rfl, _, _, rfl, rfl, _, rfl, ?_⟩
        rw [Bool.true_and] at eb
        by_cases c : (tp : Int) + ht ≤ ((2 ^ n : Nat) : Int)
        · rw [decide_eq_true c] at eb ⊢
          refine iteF ⟨_, rfl, rfl, _, rfl, iteF (iteF ⟨_, rfl, rfl, _, rfl, iteF (iteF ⟨_, rfl, _, _, rfl, rfl, _, rfl, ?_⟩)⟩)⟩
          by_cases c9 : (wo : Int) > 9
          · rw [decide_eq_true c9] at ew ⊢
            refine iteT ⟨_, rfl, _, rfl, iteF ?_⟩
            refine ⟨_, rfl, _, rfl, _, rfl, _, rfl, p, n, ts, i, .inl ⟨hP1, hi, .inl ⟨b, l, tp, wd, ht, wo, rfl, hb1, fun e => (by rw [eb] at e; cases e), fun _ _ H' s' => ⟨_, rfl, rfl, ?_⟩, fun _ e => (by rw [ew] at e; cases e)⟩⟩⟩
            rw [wP]
            exact kq H' ts i (by omega) (paint_same s' hP1) (hS1.same s') (But2.of (Same.trans s1 s'))
          · rw [decide_eq_false c9] at ew ⊢
            refine iteF ⟨_, rfl, _, rfl, iteT ⟨_, rfl, rfl, _, rfl, iteT ⟨_, rfl, _, rfl, _, rfl, v, n, t, b, l, tp, wd, ht, wo, rfl, hP.n3, okt, dv1, hb1, fun e => (by rw [eb] at e; cases e), fun _ e => (by rw [ew] at e; cases e), fun _ _ H2 v2 s2 d2 => ?_⟩⟩⟩
            refine ⟨_, rfl, _, _, rfl, rfl, _, rfl, iteF ?_⟩
            refine t_grow (v := v2) (b := b) rfl rfl (paint_same s2 hP1) (hS1.same s2) d2 (same_sqT s2 hb1) fun H4 hP4 hS4 hb4 b4 => ?_
            obtain ⟨dx, _, _, hpi, _, _⟩ := hP4.at_
            refine ⟨_, rfl, _, rfl, _, rfl, _, rfl, p, n, ts, i, .inl ⟨hP4, hi, .inl ⟨b, l, tp, wd, ht, wo, rfl, hb4, fun e => (by rw [eb] at e; cases e), fun _ e => (by rw [ew] at e; cases e), fun _ _ t' et H' b1 hP' => ⟨_, rfl, rfl, ?_⟩⟩⟩⟩
            rw [ft] at et
            cases et
            exact kq H' _ (i + 1) (Nat.le_refl _) hP' (hS4.but1 hpi b1) (But2.trans (But2.of (Same.trans s1 s2)) (But2.trans b4 (But2.of1 b1)))
        · rw [decide_eq_false c] at eb ⊢
          refine iteT ⟨_, rfl, _, rfl, iteF ?_⟩
          refine ⟨_, rfl, _, rfl, _, rfl, _, rfl, p, n, ts, i, .inl ⟨hP1, hi, .inl ⟨b, l, tp, wd, ht, wo, rfl, hb1, fun _ H' s' => ⟨_, rfl, rfl, ?_⟩, fun e => (by rw [eb] at e; cases e), fun e => (by rw [eb] at e; cases e)⟩⟩⟩
          rw [wB]
          exact kq H' ts i (by omega) (paint_same s' hP1) (hS1.same s') (But2.of (Same.trans s1 s'))
    · have wS : word "NoSpot" = "no spot" := by decide +kernel
      have wP : word "NoPicture" = "no picture" := by decide +kernel
      refine iteF (t_isBox (h := ht) rfl rfl hb1 ?_)
      have es := spot_is (n := n) (x := l) (y := tp)
      have ew := wor_is (wo := wo)
      generalize (decide ((wd : Int) > 0) && (decide ((ht : Int) > 0) && decide ((l : Int) + wd ≤ ((2 ^ n : Nat) : Int)))) = B at *
      have bad : spotOk n l tp = false → tRet (tOp rEq (tCall (spDo K) [] E0 (tCons (tVar 0) (tCons (tVar 2) (tCons (tVar 3) (tCons (tVar 4) tNil))))) (tVar 8)) { nx := fun _ H' => Q .non H', rt := Q } [some (.ref p), some (.ref s), some (.int 1), some (.ref b), some (.int wo), some (.int ((2 ^ n : Nat) : Int)), some v, none, some (.str "no spot"), some (.bl B), none] H1 := fun e0 => by
        refine ⟨_, rfl, _, rfl, _, rfl, _, rfl, p, n, ts, i, .inl ⟨hP1, hi, .inr (.inl ⟨b, l, tp, wd, ht, wo, rfl, hb1, fun _ H' s' => ⟨_, rfl, rfl, ?_⟩, fun e => (by rw [e0] at e; cases e), fun e => (by rw [e0] at e; cases e)⟩)⟩⟩
        rw [wS]
        exact kq H' ts i (by omega) (paint_same s' hP1) (hS1.same s') (But2.of (Same.trans s1 s'))
      refine ⟨_, rfl, rfl, _, rfl, iteF (iteF ⟨_, rfl, rfl, _, rfl, iteT ⟨_, rfl, b, _, _, .int l, rfl, rfl, hb1, rfl, _, rfl, _, _, rfl, rfl, _, rfl, ?_⟩⟩)⟩
      by_cases c1 : (l : Int) < ((2 ^ n : Nat) : Int)
      · rw [decide_eq_true c1] at es ⊢
        rw [Bool.true_and] at es
        refine iteT ⟨_, rfl, b, _, _, .int tp, rfl, rfl, hb1, rfl, _, rfl, _, _, rfl, rfl, _, rfl, ?_⟩
        by_cases c2 : (tp : Int) < ((2 ^ n : Nat) : Int)
        · rw [decide_eq_true c2] at es ⊢
          refine iteF ⟨_, rfl, rfl, _, rfl, iteF (iteF ⟨_, rfl, _, _, rfl, rfl, _, rfl, ?_⟩)⟩
          by_cases c9 : (wo : Int) > 9
          · rw [decide_eq_true c9] at ew ⊢
            refine iteT ⟨_, rfl, _, rfl, iteF ?_⟩
            refine ⟨_, rfl, _, rfl, _, rfl, _, rfl, p, n, ts, i, .inl ⟨hP1, hi, .inr (.inl ⟨b, l, tp, wd, ht, wo, rfl, hb1, fun e => (by rw [es] at e; cases e), fun _ _ H' s' => ⟨_, rfl, rfl, ?_⟩, fun _ e => (by rw [ew] at e; cases e)⟩)⟩⟩
            rw [wP]
            exact kq H' ts i (by omega) (paint_same s' hP1) (hS1.same s') (But2.of (Same.trans s1 s'))
          · rw [decide_eq_false c9] at ew ⊢
            refine iteF ⟨_, rfl, _, rfl, iteT ⟨_, rfl, rfl, _, rfl, iteF ?_⟩⟩
            refine ⟨_, rfl, _, _, rfl, rfl, _, rfl, iteT ⟨_, rfl, rfl, _, rfl, iteT ⟨_, rfl, _, rfl, b, _, _, .int l, rfl, rfl, hb1, rfl, _, rfl, b, _, _, .int tp, rfl, rfl, hb1, rfl, _, rfl, v, n, t, l, tp, wo, rfl, hP.n3, okt, dv1, fun e => (by rw [es] at e; cases e), fun _ e => (by rw [ew] at e; cases e), fun _ _ H2 v2 s2 d2 => ?_⟩⟩⟩
            refine t_grow (v := v2) (b := b) rfl rfl (paint_same s2 hP1) (hS1.same s2) d2 (same_sqT s2 hb1) fun H4 hP4 hS4 hb4 b4 => ?_
            obtain ⟨dx, _, _, hpi, _, _⟩ := hP4.at_
            refine ⟨_, rfl, _, rfl, _, rfl, _, rfl, p, n, ts, i, .inl ⟨hP4, hi, .inr (.inl ⟨b, l, tp, wd, ht, wo, rfl, hb4, fun e => (by rw [es] at e; cases e), fun _ e => (by rw [ew] at e; cases e), fun _ _ t' et H' b1 hP' => ⟨_, rfl, rfl, ?_⟩⟩)⟩⟩
            rw [ft] at et
            cases et
            exact kq H' _ (i + 1) (Nat.le_refl _) hP' (hS4.but1 hpi b1) (But2.trans (But2.of (Same.trans s1 s2)) (But2.trans b4 (But2.of1 b1)))
        · rw [decide_eq_false c2] at es ⊢
          exact iteT (iteT ⟨_, rfl, _, rfl, iteF (bad es)⟩)
      · rw [decide_eq_false c1] at es ⊢
        exact iteF (iteT (iteT ⟨_, rfl, _, rfl, iteF (bad es)⟩))
    · have wS : word "NoSpot" = "no spot" := by decide +kernel
      refine iteF (t_isBox (h := ht) rfl rfl hb1 ?_)
      have ey := way_is (wo := wo)
      generalize (decide ((wd : Int) > 0) && (decide ((ht : Int) > 0) && decide ((l : Int) + wd ≤ ((2 ^ n : Nat) : Int)))) = B at *
      refine ⟨_, rfl, rfl, _, rfl, iteF (iteF ⟨_, rfl, rfl, _, rfl, iteF (iteF ⟨_, rfl, rfl, _, rfl, iteT ⟨_, rfl, _, _, rfl, rfl, _, rfl, ?_⟩⟩)⟩)⟩
      by_cases c7 : (wo : Int) > 7
      · rw [decide_eq_true c7] at ey ⊢
        refine iteT ⟨_, rfl, _, rfl, iteF ?_⟩
        refine ⟨_, rfl, _, rfl, _, rfl, _, rfl, p, n, ts, i, .inl ⟨hP1, hi, .inr (.inr (.inl ⟨.ref b, wo, rfl, fun _ H' s' => ⟨_, rfl, rfl, ?_⟩, fun e => (by rw [ey] at e; cases e)⟩))⟩⟩
        rw [wS]
        exact kq H' ts i (by omega) (paint_same s' hP1) (hS1.same s') (But2.of (Same.trans s1 s'))
      · rw [decide_eq_false c7] at ey ⊢
        refine iteF ⟨_, rfl, _, _, rfl, rfl, _, rfl, ?_⟩
        have c9 : ¬ (wo : Int) > 9 := by omega
        rw [decide_eq_false c9]
        refine iteF ⟨_, rfl, _, rfl, iteT ⟨_, rfl, rfl, _, rfl, iteF ?_⟩⟩
        refine ⟨_, rfl, _, _, rfl, rfl, _, rfl, iteT ⟨_, rfl, rfl, _, rfl, iteF ⟨_, rfl, _, rfl, v, n, t, wo, rfl, hP.n3, okt, dv1, fun e => (by rw [ey] at e; cases e), fun _ H2 v2 s2 d2 => ?_⟩⟩⟩
        refine t_grow (v := v2) (b := b) rfl rfl (paint_same s2 hP1) (hS1.same s2) d2 (same_sqT s2 hb1) fun H4 hP4 hS4 hb4 b4 => ?_
        obtain ⟨dx, _, _, hpi, _, _⟩ := hP4.at_
        refine ⟨_, rfl, _, rfl, _, rfl, _, rfl, p, n, ts, i, .inl ⟨hP4, hi, .inr (.inr (.inl ⟨.ref b, wo, rfl, fun e => (by rw [ey] at e; cases e), fun _ t' et H' b1 hP' => ⟨_, rfl, rfl, ?_⟩⟩))⟩⟩
        rw [ft] at et
        cases et
        exact kq H' _ (i + 1) (Nat.le_refl _) hP' (hS4.but1 hpi b1) (But2.trans (But2.of (Same.trans s1 s2)) (But2.trans b4 (But2.of1 b1)))
end
end Ff
set_option Elab.async false
set_option linter.all false
set_option maxRecDepth 100000
set_option maxHeartbeats 4000000
namespace Ff
open PySem PySem.Spec PyProof.Rows L2
theorem scr_but2 {K : PySem.W.Frag} {p s l C dx : Addr} {fs : List (Str × V)} {i : Int} {H H' : Hp} (hp : H p = some (.ins C dx fs)) (hs : H s = some (.lst [.ref l, .int i])) (b : But2 p s H H') {a : Addr} (h : Scr K H a) : Scr K H' a := by
  obtain ⟨ns, hl, h⟩ := h
  refine ⟨ns, hl, ?_⟩
  rcases h with (h | ⟨o, h⟩) | h
  · refine .inl (.inl (b _ _ (ne_of h hp (by intro z; cases z)) (fun z => ?_) h))
    rw [z, hs] at h
    cases ns with
    | nil => cases h
    | cons x r => cases h
  · exact .inl (.inr ⟨o, b _ _ (ne_of h hp (by intro z; cases z)) (ne_of h hs (by intro z; cases z)) h⟩)
  · exact .inr h
theorem passAt0 {X : Cx} (σ : L2.St) : PassesAt (L2.CX X.prog X.w) X σ E0 := fun pins H s e s' I c => passL pins σ H s e s' I c
def whats : List V := [.int 0, .int 0, .int 1, .int 1, .int 2, .int 3, .int 3, .int 4]
theorem what_at {j : Nat} (h : j < 8) : ∃ w : Nat, w ≤ 4 ∧ whats[j]? = some (.int (w : Int)) := by
  match j, h with
  | 0, _ => exact ⟨0, by decide, rfl⟩
  | 1, _ => exact ⟨0, by decide, rfl⟩
  | 2, _ => exact ⟨1, by decide, rfl⟩
  | 3, _ => exact ⟨1, by decide, rfl⟩
  | 4, _ => exact ⟨2, by decide, rfl⟩
  | 5, _ => exact ⟨3, by decide, rfl⟩
  | 6, _ => exact ⟨3, by decide, rfl⟩
  | 7, _ => exact ⟨4, by decide, rfl⟩
section
variable {P : Program} {w : World} {K : PySem.W.Frag} {mg : Str → Option Value} {base : Heap}
/-! ### law -/
theorem sc_law : FnScope ["_law_script", "_law_picture_here", "_law_side", "_law_painter", "_law_state", "_law_k", "_law_base", "_law_left", "_law_top", "_law_box", "_law_worth", "_law_bad"] ["_law_script"] (defScope s_law) := ⟨rfl, rfl, rfl, by decide +kernel, rfl, by decide +kernel, by decide +kernel⟩
def spLaw (K : PySem.W.Frag) : Sp := fun vs H Q _ => ∃ a : Addr, vs = [.ref a] ∧ Scr K H a ∧ ∀ H', Q (.bl true) H'
/-- has_n's promise alone, of the def that is given -/
theorem fnok_n {x : Str} {st : Stmt} {fd : FuncData} {N ps : List Str} {k : Nat} {sp : Sp} (F : FunD K x x (defArgs st) (defBody st) (defScope st) [] [] (He.ga K x) fd) (S : FnScope N ps (defScope st))
    (len : ∀ vs H Q E, sp vs H Q E → vs.length = ps.length)
    (hbody : ∀ (cdv : Value) (A : Around) (outer : List Env) (s : Shared) (H : Hp) (vs : List V) (Q : VK) (E : XK), Room k (A.deeper (envOfC x (defScope st) s.heap.objs.size (He.ga K x) cdv)) → sp vs H Q E →
      ∃ t, PSs (cxOf CX0 P w K mg base N x (defScope st) (He.ga K x) cdv A outer s H E).nox (defBody st) t ∧ t { nx := fun _ H' => Q .non H', rt := Q } (start N vs) H) : FnOk P w K mg base CX0 (k + 1) (He.ga K x) fd ps sp :=
  F.ok S len fun cdv A outer s H vs Q E hr h => let ⟨t, h1, h2⟩ := hbody cdv A outer s H vs Q E hr h; ⟨t, h1.nox, h2⟩
theorem h_law (tx : Tx K mg) {fd : FuncData} (F : FunD K "law" "law" (defArgs s_law) (defBody s_law) (defScope s_law) [] [] (He.ga K "law") fd) : FnOk P w K mg base CX0 14 (He.ga K "law") fd ["_law_script"] (spLaw K) := by
  refine fnok_n (st := s_law) F sc_law (fun vs H Q E h => ?_) (fun cdv A outer s H vs Q E hr h => ?_)
  · obtain ⟨a, rfl, _⟩ := h
    rfl
  · obtain ⟨a, rfl, hs, kq⟩ := h
    have nd := sc_law.nd
    have hs0 : sizeLine = 16777216 := sizeLine_eq
    have hr2 := hr.mono (show 2 ≤ 13 by decide)
    have hr1 := hr.mono (show 1 ≤ 13 by decide)
    refine ⟨_, pss_cons (ps_set (i := 1) nd rfl (Or.inl rfl) (pe_h0 (h_law_picture tx) (hr.mono (by decide)) (pa_cons (pv 0) (pa_cons pe_int (pa_cons pe_int pa_nil)))))
      (pss_cons (ps_set (i := 2) nd rfl (Or.inl rfl) (pe_callB call_len_seq (by rfl) tx.z_len b_len (pa_cons (pe_h0 (h_law_rows tx) (hr.mono (by decide)) (pa_cons (pv 1) pa_nil)) pa_nil)))
      (pss_cons (ps_set (i := 3) nd rfl (Or.inl rfl) (pe_makeE (E := fun _ => E0) tx.mkP (h_Pinit tx) (hr.mono (by decide)) tx.g_Painter passAt0 (pa_cons (pv 1) pa_nil)))
      (pss_cons (ps_set (i := 4) nd rfl (Or.inl rfl) (pe_lst (pa_cons (pe_lst (pa_cons (pe_h0 (h_law_of tx) (hr.mono (by decide)) (pa_cons (pe_h0 (h_law_rows tx) (hr.mono (by decide)) (pa_cons (pv 1) pa_nil)) pa_nil)) pa_nil)) (pa_cons pe_int pa_nil))))
      (pss_cons (ps_for PassesOwn.never rfl (pi_range1 rfl tx.z_range (pa_cons (pe_h0 (h_law_pick tx) hr2 (pa_cons (pv 0) (pa_cons pe_int (pa_cons pe_int pa_nil)))) pa_nil)) (pg_name (i := 5) nd rfl (Or.inl rfl))
        (pss_cons (ps_set (i := 6) nd rfl (Or.inl rfl) (pe_op op_add pe_int (pe_op op_mul pe_int (pv 5))))
        (pss_cons (ps_par (i := 7) (j := 8) (by rfl) nd rfl rfl (by decide) rfl rfl (pa_cons (pe_h0 (h_law_pick tx) hr2 (pa_cons (pv 0) (pa_cons (pv 6) (pa_cons (pe_op op_add (pv 2) pe_int) pa_nil)))) (pa_cons (pe_h0 (h_law_pick tx) hr2 (pa_cons (pv 0) (pa_cons (pe_op op_add (pv 6) pe_int) (pa_cons (pe_op op_add (pv 2) pe_int) pa_nil)))) pa_nil)) (by rfl))
        (pss_cons (ps_set (i := 9) nd rfl (Or.inl rfl) (pe_tup (pa_cons (pv 7) (pa_cons (pv 8) (pa_cons (pe_h0 (h_law_pick tx) hr2 (pa_cons (pv 0) (pa_cons (pe_op op_add (pv 6) pe_int) (pa_cons (pe_op op_add (pe_op op_sub (pv 2) (pv 7)) pe_int) pa_nil))))
          (pa_cons (pe_h0 (h_law_pick tx) hr2 (pa_cons (pv 0) (pa_cons (pe_op op_add (pv 6) pe_int) (pa_cons (pe_op op_add (pe_op op_sub (pv 2) (pv 8)) pe_int) pa_nil)))) pa_nil))))))
        (pss_cons (ps_set (i := 10) nd rfl (Or.inl rfl) (pe_h0 (h_law_pick tx) hr2 (pa_cons (pv 0) (pa_cons (pe_op op_add (pv 6) pe_int) (pa_cons pe_int pa_nil)))))
        (pss_cons (ps_if (pt_not (pt_val (pe_h0 (h_law_turn tx) hr (pa_cons (pv 3) (pa_cons (pv 4) (pa_cons (pe_ix ix_list (pe_lst (pa_cons pe_int (pa_cons pe_int (pa_cons pe_int (pa_cons pe_int (pa_cons pe_int (pa_cons pe_int (pa_cons pe_int (pa_cons pe_int pa_nil)))))))))
            (pe_h0 (h_law_pick tx) hr2 (pa_cons (pv 0) (pa_cons (pe_op op_add (pv 6) pe_int) (pa_cons pe_int pa_nil)))) (fun _ _ => rfl)) (pa_cons (pv 9) (pa_cons (pv 10) pa_nil)))))))) (pss_one (ps_ret pe_bl)) pss_nil)
        (pss_one (ps_if (PW.pt (pw_or (pt_cmpR (op_neD hr.units) (pe_m0 (E := E0) (h_Pshown tx) hr1 pass0 tx.cP tx.m_shown (pv 3)) (pe_ix ix_list (pe_ix ix_list (pv 4) pe_int (fun _ _ => rfl)) (pe_ix ix_list (pv 4) pe_int (fun _ _ => rfl)) (fun _ _ => rfl)) (nomark _))
            (pw_or1 (pt_cmpR (op_neD hr.units) (pe_m0 (E := E0) (h_Pmany tx) hr1 pass0 tx.cP tx.m_many (pv 3)) (pe_tup (pa_cons (pe_ix ix_list (pv 4) pe_int (fun _ _ => rfl)) (pa_cons (pe_op op_sub (pe_op op_sub (pe_callB call_len_seq (by rfl) tx.z_len b_len (pa_cons (pe_ix ix_list (pv 4) pe_int (fun _ _ => rfl)) pa_nil)) pe_int) (pe_ix ix_list (pv 4) pe_int (fun _ _ => rfl))) pa_nil))) (nomark _)))))
          (pss_one (ps_ret pe_bl)) pss_nil))))))))
      (pss_cons (ps_set (i := 11) nd rfl (Or.inl rfl) (pe_h0 (h_law_spoilt_thing tx) (hr.mono (by decide)) (pa_cons (pv 0) (pa_cons pe_int (pa_cons (pv 1) pa_nil)))))
      (pss_one (ps_ret (pe_or (pe_h0 (h_law_is_picture tx) (hr.mono (by decide)) (pa_cons (pv 11) pa_nil)) (pe_one (pe_cmpR op_eq (pe_h0 (h_law_do tx) (hr.mono (by decide)) (pa_cons (pv 3) (pa_cons pe_int (pa_cons (pv 11) (pa_cons pe_non pa_nil))))) pe_str (nomark _))))))))))), ?_⟩
    refine ⟨_, rfl, a, 0, rfl, hs, fun v n t H1 hn ok s1 d1 => ?_⟩
    refine ⟨_, rfl, v, n, t, rfl, hn, ok, d1, fun H2 lr xs s2 hlr hw => ?_⟩
    refine ⟨lr, xs, rfl, .inr hlr, ?_⟩
    have hx : xs.length = 2 ^ n := by rw [hw.1, rows_length]
    rw [hx]
    have d2 := dp_same s2 d1
    have c2 := hs.same (Same.trans s1 s2)
    refine ⟨_, rfl, fun p dx hp hdx ne => ?_⟩
    have s3 : Same H2 (upd (upd H2 dx (.own p)) p (.ins (He.ga K "Painter") dx [])) := same_over (same_upd hdx) hp
    refine ⟨p, dx, v, pd n t, rfl, upd_same, dp_same s3 d2, fun e => pd_isP hn ok e, fun n' t' e hn' ok' H4 b4 hP4 => ⟨rfl, ?_⟩⟩
    obtain ⟨e1, e2⟩ := pd_inj e
    have e3 := d_inj e2
    subst e1 e3
    have s4 : Same H2 H4 := fun c o z => b4 _ _ (fun q => by rw [q, hp] at z; cases z) (s3 _ _ z)
    have d4 := dp_same s4 d2
    have c4 := c2.same s4
    refine ⟨_, rfl, v, n, t, rfl, hn, ok, d4, fun H5 lr2 xs2 s5 hlr2 hw2 => ?_⟩
    refine ⟨lr2, xs2, n, t, rfl, hn, ok, hlr2, hw2, fun H6 v6 s6 d6 => ?_⟩
    refine ⟨(by show 1 ≤ sizeLine; omega), fun l2 hl2 => ⟨(by show 2 ≤ sizeLine; omega), fun s hs7 => ?_⟩⟩
    have s7 := same_upd (o := .lst [v6]) hl2
    have s8 := same_upd (o := .lst [.ref l2, .int 0]) hs7
    have s78 := Same.trans s7 s8
    have s58 := Same.trans s5 (Same.trans s6 s78)
    have hP8 := paint_same s58 hP4
    have d8 := dp_same s58 d4
    have c8 := c4.same s58
    have hS8 : StateAt K (upd (upd H6 l2 (.lst [v6])) s (.lst [.ref l2, .int 0])) s n [lean t] 0 := ⟨l2, [v6], upd_same, s8 _ _ upd_same, Pics.one (dp_same s78 d6)⟩
    generalize upd (upd H6 l2 (.lst [v6])) s (.lst [.ref l2, .int 0]) = H8 at *
    refine ⟨_, rfl, a, 5000, 11, rfl, by decide, c8, fun turns H9 ht s9 => ?_⟩
    refine ⟨(turns : Int), rfl, by omega, by omega, for_range (lo := 0) (n := turns) (fun k σ H' => ∃ (o5 o6 o7 o8 o9 o10 : Option V) (ts : List T) (i : Nat), σ = [some (.ref a), some v, some (.int ((2 ^ n : Nat) : Int)), some (.ref p), some (.ref s), o5, o6, o7, o8, o9, o10, none] ∧
      PaintAt K H' p n ts i ∧ StateAt K H' s n ts i ∧ i ≤ k ∧ Scr K H' a ∧ Dp K H' v (pd n t)) ?_ ?_ ?_⟩
    · exact ⟨none, none, none, none, none, none, [lean t], 0, rfl, paint_same s9 hP8, hS8.same s9, Nat.le_refl _, c8.same s9, dp_same s9 d8⟩
    · rintro k σ H' hk ⟨o5, o6, o7, o8, o9, o10, ts, i, rfl, hP, hS, hik, hc, hd⟩
      have hp1 := pow_pos' n
      refine ⟨_, rfl, _, _, rfl, rfl, .inl (by decide), _, _, rfl, rfl, ?_⟩
      have eb : (5010 + 10 * (0 + (k : Int))) = ((5010 + 10 * k : Nat) : Int) := by omega
      show gName 6 (V.int (5010 + 10 * (0 + (k : Int)))) _ _ _
      rw [eb]
      generalize 5010 + 10 * k = B
      refine ⟨_, rfl, _, rfl, _, rfl, _, _, rfl, rfl, a, B, 2 ^ n + 1, rfl, by omega, hc, fun left Ha hle sa => ?_⟩
      have ca := hc.same sa
      refine ⟨_, rfl, _, rfl, _, _, rfl, rfl, _, rfl, _, _, rfl, rfl, a, B + 1, 2 ^ n + 1, rfl, by omega, ca, fun top Hb hto sb => ?_⟩
      have cb := ca.same sb
      refine ⟨_, _, rfl, ?_⟩
      refine ⟨_, rfl, _, rfl, _, rfl, _, rfl, _, _, rfl, rfl, _, rfl, _, rfl, _, _, rfl, rfl, _, _, rfl, rfl, a, B + 2, 2 ^ n - left + 2, ?_, by omega, cb, fun bw Hc hbw sc => ?_⟩
      · show [V.ref a, V.int ((B : Int) + 2), V.int (((2 ^ n : Nat) : Int) - (left : Int) + 2)] = [V.ref a, V.int ((B + 2 : Nat) : Int), V.int ((2 ^ n - left + 2 : Nat) : Int)]
        have e1 : ((2 ^ n : Nat) : Int) - (left : Int) + 2 = ((2 ^ n - left + 2 : Nat) : Int) := by omega
        rw [e1]
        rfl
      have cc := cb.same sc
      refine ⟨_, rfl, _, rfl, _, _, rfl, rfl, _, rfl, _, rfl, _, _, rfl, rfl, _, _, rfl, rfl, a, B + 3, 2 ^ n - top + 2, ?_, by omega, cc, fun bh Hd hbh sd => ⟨(by show 4 ≤ sizeLine; omega), fun bx hbx => ?_⟩⟩
      · show [V.ref a, V.int ((B : Int) + 3), V.int (((2 ^ n : Nat) : Int) - (top : Int) + 2)] = [V.ref a, V.int ((B + 3 : Nat) : Int), V.int ((2 ^ n - top + 2 : Nat) : Int)]
        have e1 : ((2 ^ n : Nat) : Int) - (top : Int) + 2 = ((2 ^ n - top + 2 : Nat) : Int) := by omega
        rw [e1]
        rfl
      have se := same_upd (o := .tup [.int left, .int top, .int bw, .int bh]) hbx
      have we := upd_same (H := Hd) (a := bx) (o := .tup [.int left, .int top, .int bw, .int bh])
      have ce := (cc.same sd).same se
      have sae := Same.trans sa (Same.trans sb (Same.trans sc (Same.trans sd se)))
      generalize upd Hd bx _ = He' at *
      refine ⟨_, rfl, _, rfl, _, _, rfl, rfl, a, B + 4, 11, rfl, by decide, ce, fun wo Hf hwo sf => ?_⟩
      have cf := ce.same sf
      refine ⟨_, rfl, _, rfl, (by show 8 ≤ sizeLine; omega), fun wl hwl => ?_⟩
      have sg := same_upd (o := .lst whats) hwl
      have wg := upd_same (H := Hf) (a := wl) (o := .lst whats)
      have cg := cf.same sg
      refine ⟨_, rfl, _, rfl, _, _, rfl, rfl, a, B + 5, 8, rfl, by decide, cg, fun jw Hh hjw sh => ?_⟩
      obtain ⟨wt, hwt, ewt⟩ := what_at hjw
      have sah := Same.trans sae (Same.trans sf (Same.trans sg sh))
      have ch := cg.same sh
      have hPh := paint_same sah hP
      have hSh := hS.same sah
      have hdh := dp_same sah hd
      obtain ⟨dx, _, _, hpi, _, _⟩ := hPh.at_
      obtain ⟨lh, vh, hsh, _, _⟩ := id hSh
      refine ⟨wl, whats, _, .int wt, rfl, rfl, SqL.of (sh _ _ wg), atI_nat ewt, _, rfl, _, rfl, p, s, bx, wt, n, ts, i, left, top, bw, bh, wo, rfl, hwt, hPh, hSh, by omega, SqT.of (sh _ _ (sg _ _ (sf _ _ we))), fun Hi ts' i' hi' hPi hSi bi => ⟨_, rfl, iteF ?_⟩⟩
      have ci := scr_but2 hpi hsh bi ch
      have di := dp_pic (fun _ _ z => but2_sqT hpi hsh bi z) hdh
      obtain ⟨dx2, _, _, hpi2, _, _⟩ := hPi.at_
      obtain ⟨l3, v3, hs3, hl3, hp3⟩ := id hSi
      obtain ⟨v5, t5, ev5, et5, d5⟩ := hp3.get hPi.lt
      have hvl := hp3.1
      refine ⟨_, rfl, p, dx2, _, rfl, hpi2, pf_no _ _ (by decide +kernel) (by decide +kernel), p, n, ts', i', rfl, hPi, fun v1 t1 et1 ok1 d1 => ?_⟩
      rw [et5] at et1
      cases et1
      have shp := sm_shaped (sm_pd ok1) (by omega)
      refine ⟨_, rfl, s, _, _, .ref l3, rfl, rfl, SqL.of hs3, rfl, _, rfl, s, _, _, .int i', rfl, rfl, SqL.of hs3, rfl, l3, v3, _, v5, rfl, rfl, SqL.of hl3, atI_nat ev5, pd n t5, pd n t5, d1, d5, shp, shp, _, rfl, ?_⟩
      rw [eqv_pd ok1]
      refine iteF ⟨_, rfl, p, dx2, _, rfl, hpi2, pf_no _ _ (by decide +kernel) (by decide +kernel), p, n, ts', i', rfl, hPi, fun r hr => ?_⟩
      have sj := same_upd (o := .tup [.int i', .int ((ts'.length : Int) - 1 - i')]) hr
      have wj := upd_same (H := Hi) (a := r) (o := .tup [.int i', .int ((ts'.length : Int) - 1 - i')])
      refine ⟨_, rfl, s, _, _, .int i', rfl, rfl, SqL.of (sj _ _ hs3), rfl, _, rfl, s, _, _, .ref l3, rfl, rfl, SqL.of (sj _ _ hs3), rfl, l3, v3, rfl, .inl (SqL.of (sj _ _ hl3)), _, _, rfl, rfl, _, rfl, s, _, _, .int i', rfl, rfl, SqL.of (sj _ _ hs3), rfl, _, _, rfl, rfl, (by show 2 ≤ sizeLine; omega), fun q hq => ?_⟩
      rw [hvl]
      have sk := same_upd (o := .tup [.int i', .int ((ts'.length : Int) - 1 - i')]) hq
      have smd : sm 1 (.tuple [.int i', .int ((ts'.length : Int) - 1 - i')]) = true := rfl
      refine ⟨.tuple [.int i', .int ((ts'.length : Int) - 1 - i')], .tuple [.int i', .int ((ts'.length : Int) - 1 - i')], .tup (SqT.of (sk _ _ wj)) (.cons (.int _) (.cons (.int _) .nil)), .tup (SqT.of upd_same) (.cons (.int _) (.cons (.int _) .nil)), sm_shaped smd (by decide), sm_shaped smd (by decide), _, rfl, ?_⟩
      rw [SeqAt.eqv_refl _ (sm_can _ smd)]
      have sjk := Same.trans sj sk
      exact iteF ⟨_, _, _, _, _, _, ts', i', rfl, paint_same sjk hPi, hSi.same sjk, by omega, ci.same sjk, dp_same sjk di⟩
    · rintro σ H' ⟨o5, o6, o7, o8, o9, o10, ts, i, rfl, hP, hS, hik, hc, hd⟩
      refine ⟨_, rfl, _, rfl, a, 5900, v, n, t, rfl, hn, ok, hc, hd, fun Ha vb db sa dvb smb => ?_⟩
      refine ⟨_, rfl, vb, db, 20, rfl, by decide, smb, dvb, fun Hb sb => ⟨_, rfl, ?_⟩⟩
      cases hb : isP db with
      | true => exact iteT (kq Hb)
      | false =>
        refine iteF ⟨_, rfl, _, rfl, p, n, ts, i, .inr ⟨vb, db, rfl, dp_same sb dvb, hb, fun Hc sc => ⟨rfl, ?_⟩⟩⟩
        have wP : word "NoPicture" = "no picture" := by decide +kernel
        rw [wP]
        exact kq Hc
end
end Ff
set_option Elab.async false
set_option linter.all false
set_option maxRecDepth 100000
set_option maxHeartbeats 0
namespace Ff
open PySem PySem.Spec PyProof.Rows L2
theorem facts {P : Program} {w : World} {K : PySem.W.Frag} {h : Heap} {mg : Str → Option Value} {f : Addr} (X : K.In h) (G : h.Ns mainGlobals mg) (hfa : mg ("law" : Str) = some (.ref f)) (c : SaysF K) :
    ∃ fd : FuncData, (∀ (s : Shared) (v : Value), BindsTo s fd ⟨[v], []⟩ [("_law_script", v)]) ∧ ∀ base : Heap, K.In base → base.Ns mainGlobals mg → FnOk P w K mg base CX0 14 f fd ["_law_script"] (spLaw K) := by
  have tx : Tx K mg := ⟨⟨h, X, G⟩, c⟩
  obtain ⟨fd, F⟩ := tx.fn_law
  have e := hfa.symm.trans tx.g_law
  cases e
  have b := FunD.bindsA (ps := ["_law_script"]) F fun _ _ _ _ _ _ us hl => match us, hl with | [_], _ => rfl
  exact ⟨fd, fun s v => b s [v] rfl, fun base _ _ => h_law tx F⟩
end Ff
open PySem PySem.W PySem.Calls PyProof.Rows
theorem PySem.Challenge.cw_fourfold_k92_whole_painters_holds : PySem.Challenge.rw_fourfold_k92_whole_painters.Holds := by
  w_on; o_law
  refine HandSHeadRun.head_any (r := Ff.R) (q := PySem.W.view Ff.R.prog [61]) (H := Ff.hk) (ob := Ff.ob) (M := 6000) (loose := Ff.names) (d := HandSHeadRun.topDef Ff.R.prog 61) (kwd := []) Ff.ob_eq
    (by kernel_rfl) (fun s => by kernel_rfl) Ff.run (by kernel_rfl) (by kernel_rfl) (by kernel_rfl) (by rfl) (by first | assumption | decide +kernel) (by decide +kernel) ⟨rfl, rfl, rfl, rfl, rfl, by decide +kernel⟩ ?hw ?hc
  case hw => w_witness2
  case hc =>
    refine L2.walk_ofE (l := PySem.Challenge.rw_fourfold_k92_whole_painters) (n := 63) (k := 14) (x := "_law_script") (CX := L2.CX0) rfl (by decide) (by kernel_rfl) ⟨rfl, by decide, by decide⟩ ?F (fun _ _ _ _ z => z)
    intro w mg fa h Y G hmg0
    obtain ⟨K, KX, c⟩ := Y
    have hmg : mg ("law" : PySem.Str) = some (.ref fa) := by
      have e : (HandSHeadRun.topDef Ff.R.prog 61).name = ("law" : PySem.Str) := by kernel_rfl
      rw [← e]
      exact hmg0
    obtain ⟨fd, hb, hF⟩ := Ff.facts (P := (PySem.Challenge.rw_fourfold_k92_whole_painters).prog) (w := w) KX G hmg c
    exact ⟨K, fd, Ff.spLaw K, KX, hb, fun H a ns hl _ hS => ⟨a, rfl, ⟨ns, hl, hS⟩, fun _ => rfl⟩, hF⟩
