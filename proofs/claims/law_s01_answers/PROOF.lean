import PyProof.Rows.All
import Wide.All
import OpenK.AllK
import Wide.FinOn
import Open.SpecLaws
import KE.OsGo
import KE.BitLaws
import HandS.ForSpec
import HandS.Comp
import HandS.Iter
import HandS.Conv
import HandS.NoneIn
import HandS.CallLocal
import HandS.Walk
import PySem.Challenge.RW_treeofcuts_s01_answers
set_option Elab.async false
set_option linter.all false
set_option maxRecDepth 100000
set_option maxHeartbeats 4000000

namespace Tc
open Km361

/-! ### sums -/
theorem foldl_add (l : List Nat) : ∀ a : Nat, l.foldl (· + ·) a = a + l.foldl (· + ·) 0 := by
  induction l with
  | nil => intro a; simp
  | cons x r ih =>
    intro a
    rw [List.foldl_cons, List.foldl_cons, ih (a + x), ih (0 + x)]
    omega
theorem sum_nil : sum [] = 0 := rfl
theorem sum_cons (x : Nat) (l : List Nat) : sum (x :: l) = x + sum l := by
  unfold sum
  rw [List.foldl_cons, foldl_add l (0 + x)]
  omega
theorem sum_append (l m : List Nat) : sum (l ++ m) = sum l + sum m := by
  induction l with
  | nil => rw [List.nil_append, sum_nil]; omega
  | cons x r ih => rw [List.cons_append, sum_cons, sum_cons, ih]; omega

/-! ### edges -/
/-- what one line lets over a side's edge -/
def over (s : Nat) (l : Line) : Nat := if s.testBit l.a == s.testBit l.b then 0 else l.most
def overO (s : Nat) : Option Line → Nat
  | none => 0
  | some l => over s l
/-- the edge of the first lines -/
def edgeL (s : Nat) (ls : List (Option Line)) : Nat := sum (ls.map (overO s))
theorem edgeL_nil (s : Nat) : edgeL s [] = 0 := rfl
theorem edgeL_snoc (s : Nat) (ls : List (Option Line)) (o : Option Line) : edgeL s (ls ++ [o]) = edgeL s ls + overO s o := by
  unfold edgeL
  rw [List.map_append, sum_append, List.map_cons, List.map_nil, sum_cons, sum_nil]
  omega
theorem edge_eq (n : Net) (s : Nat) : n.edge s = edgeL s n.lines := by
  show sum ((n.lines.filterMap fun x => x).map (over s)) = sum (n.lines.map (overO s))
  generalize n.lines = ls
  induction ls with
  | nil => rfl
  | cons o r ih =>
    cases o with
    | none =>
      rw [List.filterMap_cons_none rfl, List.map_cons, sum_cons, ih]
      show _ = 0 + _
      omega
    | some l =>
      have e : (some l :: r).filterMap (fun x => x) = l :: r.filterMap (fun x => x) := rfl
      rw [e, List.map_cons, List.map_cons, sum_cons, sum_cons, ih]
      rfl

/-! ### what a net must be -/
structure LineOk (l : Line) : Prop where
  a8 : l.a < 8
  b8 : l.b < 8
  m : l.most ≤ 1000
structure NetOk (n : Net) : Prop where
  len : n.lines.length = 24
  each : ∀ l, some l ∈ n.lines → LineOk l
theorem edgeL_le (s : Nat) : ∀ ls : List (Option Line), (∀ l, some l ∈ ls → LineOk l) → edgeL s ls ≤ 1000 * ls.length
  | [], _ => Nat.le_refl _
  | o :: r, h => by
    have ih := edgeL_le s r fun l m => h l (List.mem_cons_of_mem _ m)
    have e : edgeL s (o :: r) = overO s o + edgeL s r := by
      unfold edgeL
      rw [List.map_cons, sum_cons]
    have ho : overO s o ≤ 1000 := by
      cases o with
      | none => exact Nat.zero_le _
      | some l =>
        have hl := (h l (List.mem_cons_self ..)).m
        show (if s.testBit l.a == s.testBit l.b then 0 else l.most) ≤ 1000
        split
        · omega
        · exact hl
    rw [e, List.length_cons]
    omega
theorem edge_le {n : Net} (h : NetOk n) (s : Nat) : n.edge s ≤ 24000 := by
  have e := edgeL_le s n.lines h.each
  rw [h.len] at e
  rw [edge_eq]
  omega
theorem fresh_ok : NetOk fresh := ⟨by decide, fun l m => by
  have e := List.eq_of_mem_replicate (show some l ∈ List.replicate LINES none from m)
  cases e⟩
theorem mem_set {α : Type} {x y : α} : ∀ {l : List α} {i : Nat}, x ∈ l.set i y → x = y ∨ x ∈ l
  | [], _, h => by simp at h
  | a :: r, 0, h => by
    rcases List.mem_cons.mp h with e | m
    · exact .inl e
    · exact .inr (List.mem_cons_of_mem _ m)
  | a :: r, i + 1, h => by
    rcases List.mem_cons.mp (show x ∈ a :: r.set i y from h) with e | m
    · exact .inr (by rw [e]; exact List.mem_cons_self ..)
    · rcases mem_set m with e | m'
      · exact .inl e
      · exact .inr (List.mem_cons_of_mem _ m')
theorem set_ok {n : Net} (h : NetOk n) (k : Nat) (o : Option Line) (ho : ∀ l, o = some l → LineOk l) : NetOk ⟨n.lines.set k o⟩ :=
  ⟨by rw [show (Net.mk (n.lines.set k o)).lines = n.lines.set k o from rfl, List.length_set]; exact h.len, fun l m => by
    rcases mem_set m with e | m'
    · exact ho l e.symm
    · exact h.each l m'⟩

/-! ### the least of some sides -/
def least (f : Nat → Nat) (b : Nat) (l : List Nat) : Nat := l.foldl (fun x s => if f s < f x then s else x) b
theorem least_snoc (f : Nat → Nat) (b : Nat) (l : List Nat) (s : Nat) : least f b (l ++ [s]) = if f s < f (least f b l) then s else least f b l := by
  unfold least
  rw [List.foldl_append]
  rfl
theorem least_mem (f : Nat → Nat) : ∀ (l : List Nat) (b : Nat), least f b l = b ∨ least f b l ∈ l
  | [], b => .inl rfl
  | x :: r, b => by
    show least f (if f x < f b then x else b) r = b ∨ least f (if f x < f b then x else b) r ∈ x :: r
    rcases least_mem f r (if f x < f b then x else b) with e | m
    · rw [e]
      split
      · exact .inr (List.mem_cons_self ..)
      · exact .inl rfl
    · exact .inr (List.mem_cons_of_mem _ m)
/-- with a test in front of each side -/
theorem least_filter (f : Nat → Nat) (p : Nat → Bool) : ∀ (l : List Nat) (b : Nat), least f b (l.filter p) = l.foldl (fun x s => if p s = true ∧ f s < f x then s else x) b
  | [], _ => rfl
  | x :: r, b => by
    by_cases h : p x = true
    · rw [List.filter_cons_of_pos h, List.foldl_cons]
      show least f (if f x < f b then x else b) (r.filter p) = _
      rw [least_filter f p r]
      congr 1
      simp [h]
    · rw [List.filter_cons_of_neg h, List.foldl_cons, least_filter f p r]
      congr 1
      simp [h]
def parts (a b s : Nat) : Bool := s.testBit a && !s.testBit b
/-- the cut by the edges alone -/
def cutF (f : Nat → Nat) (a b : Nat) : Nat := least f (2 ^ a) ((List.range 256).filter (parts a b))
def sides (a b : Nat) : List Nat := (List.range 256).filter (parts a b)
theorem sides_head : ∀ a b : Fin 8, a ≠ b → (sides a b).head? = some (2 ^ a.val) := by decide +kernel
theorem sides_cons {a b : Nat} (ha : a < 8) (hb : b < 8) (h : a ≠ b) : ∃ r, sides a b = 2 ^ a :: r := by
  have e := sides_head ⟨a, ha⟩ ⟨b, hb⟩ fun z => h (congrArg Fin.val z)
  cases q : sides a b with
  | nil =>
    rw [show sides (Fin.mk a ha).val (Fin.mk b hb).val = sides a b from rfl, q] at e
    cases e
  | cons x r =>
    rw [show sides (Fin.mk a ha).val (Fin.mk b hb).val = sides a b from rfl, q] at e
    exact ⟨r, by rw [Option.some.inj e]⟩
theorem sides_lt {a b s : Nat} (h : s ∈ sides a b) : s < 256 := List.mem_range.mp (List.mem_filter.mp h).1
theorem side_eq (n : Net) (a b : Nat) : n.side a b = cutF n.edge a b := by
  unfold cutF
  rw [least_filter]
  show (List.range 256).foldl (fun x s => if s.testBit a = true ∧ s.testBit b = false ∧ n.edge s < n.edge x then s else x) (2 ^ a) = _
  congr 1
  funext x s
  have e : (s.testBit a = true ∧ s.testBit b = false ∧ n.edge s < n.edge x) = (parts a b s = true ∧ n.edge s < n.edge x) := by
    unfold parts
    cases s.testBit a <;> cases s.testBit b <;> simp
  simp only [e]
theorem pow_lt {a : Nat} (h : a < 8) : 2 ^ a < 256 := Nat.pow_lt_pow_right (by decide) h
theorem cutF_lt (f : Nat → Nat) {a b : Nat} (ha : a < 8) : cutF f a b < 256 := by
  unfold cutF
  rcases least_mem f ((List.range 256).filter (parts a b)) (2 ^ a) with e | m
  · rw [e]; exact pow_lt ha
  · exact sides_lt m
/-- the weakest side by the edges alone -/
def inner : List Nat := (List.range 254).map (· + 1)
def weakF (f : Nat → Nat) : Nat := least f 1 inner
theorem inner_eq : inner = (List.range 255).filter fun s => decide (0 < s) := by decide +kernel
theorem inner_cons : ∃ r, inner = 1 :: r := ⟨inner.tail, by decide +kernel⟩
theorem inner_lt {s : Nat} (h : s ∈ inner) : s < 256 := by
  obtain ⟨i, hi, e⟩ := List.mem_map.mp h
  have := List.mem_range.mp hi
  omega
theorem weak_eq (n : Net) : n.weakest = weakF n.edge := by
  unfold weakF
  rw [inner_eq, least_filter]
  show (List.range 255).foldl (fun x s => if 0 < s ∧ n.edge s < n.edge x then s else x) 1 = _
  congr 1
  funext x s
  simp only [decide_eq_true_eq]
theorem weakF_lt (f : Nat → Nat) : weakF f < 256 := by
  unfold weakF
  rcases least_mem f inner 1 with e | m
  · rw [e]; decide
  · exact inner_lt m

/-! ### the tree -/
structure TreeOk (t : Tree) : Prop where
  la : t.above.length = 8
  lm : t.much.length = 8
  up : ∀ k, 0 < k → k < 8 → at_ t.above k < k
  w : ∀ k, k < 8 → at_ t.much k ≤ 24000
theorem at_set {l : List Nat} {i k v : Nat} (h : k < l.length) : at_ (l.set k v) i = if i = k then v else at_ l i := by
  unfold at_
  rw [List.getD_eq_getElem?_getD, List.getD_eq_getElem?_getD, List.getElem?_set]
  by_cases e : k = i
  · rw [if_pos e, if_pos e.symm]
    subst e
    rw [if_pos h]
    rfl
  · rw [if_neg e, if_neg fun z => e z.symm]
theorem at_get {l : List Nat} {i : Nat} (h : i < l.length) : l[i]? = some (at_ l i) := by
  unfold at_
  rw [List.getD_eq_getElem?_getD, List.getElem?_eq_getElem h]
  rfl
theorem at_map_range {g : Nat → Nat} {i m : Nat} (h : i < m) : at_ ((List.range m).map g) i = g i := by
  unfold at_
  rw [List.getD_eq_getElem?_getD, List.getElem?_map, List.getElem?_range h]
  rfl
theorem ext_at {l m : List Nat} (hl : l.length = m.length) (h : ∀ i, i < l.length → at_ l i = at_ m i) : l = m := by
  apply List.ext_getElem? 
  intro i
  by_cases hi : i < l.length
  · rw [at_get hi, at_get (by omega), h i hi]
  · rw [List.getElem?_eq_none (by omega), List.getElem?_eq_none (by omega)]
def growF (f : Nat → Nat) (t : Tree) (s : Nat) : Tree :=
  ⟨(List.range 8).map fun i => if s < i ∧ (cutF f s (at_ t.above s)).testBit i = true ∧ at_ t.above i = at_ t.above s then s else at_ t.above i, t.much.set s (f (cutF f s (at_ t.above s)))⟩
theorem grow_eq (n : Net) (t : Tree) (s : Nat) : n.grow t s = growF n.edge t s := by
  unfold Net.grow growF
  simp only [side_eq]
  rfl
/-- the tree behind the first places -/
def treeF (f : Nat → Nat) : Nat → Tree
  | 0 => tree0
  | i + 1 => growF f (treeF f i) (i + 1)
theorem tree_eq (n : Net) : n.tree = treeF n.edge 7 := by
  show (List.range 7).foldl (fun t i => n.grow t (i + 1)) tree0 = _
  have e : ∀ i, (List.range i).foldl (fun t i => n.grow t (i + 1)) tree0 = treeF n.edge i := by
    intro i
    induction i with
    | zero => rfl
    | succ i ih =>
      rw [List.range_succ, List.foldl_append, ih, List.foldl_cons, List.foldl_nil, grow_eq]
      rfl
  exact e 7
theorem at_tree0 : ∀ k : Fin 8, at_ tree0.above k = 0 ∧ at_ tree0.much k = 0 := by decide
theorem tree0_ok : TreeOk tree0 := ⟨by decide, by decide, fun k h0 h8 => by rw [(at_tree0 ⟨k, h8⟩).1]; exact h0, fun k h8 => by rw [(at_tree0 ⟨k, h8⟩).2]; exact Nat.zero_le _⟩
theorem growF_ok {f : Nat → Nat} (hf : ∀ s, f s ≤ 24000) {t : Tree} (h : TreeOk t) {s : Nat} (hs : 0 < s) (hs8 : s < 8) : TreeOk (growF f t s) := by
  refine ⟨?_, ?_, fun k h0 h8 => ?_, fun k h8 => ?_⟩
  · show ((List.range 8).map _).length = 8
    rw [List.length_map, List.length_range]
  · show (t.much.set s _).length = 8
    rw [List.length_set]
    exact h.lm
  · show at_ ((List.range 8).map fun i => if s < i ∧ (cutF f s (at_ t.above s)).testBit i = true ∧ at_ t.above i = at_ t.above s then s else at_ t.above i) k < k
    rw [at_map_range h8]
    split
    · rename_i q
      exact q.1
    · exact h.up k h0 h8
  · show at_ (t.much.set s _) k ≤ 24000
    rw [at_set (by rw [h.lm]; exact hs8)]
    split
    · exact hf _
    · exact h.w k h8
theorem treeF_ok {f : Nat → Nat} (hf : ∀ s, f s ≤ 24000) : ∀ i, i ≤ 7 → TreeOk (treeF f i)
  | 0, _ => tree0_ok
  | i + 1, h => growF_ok hf (treeF_ok hf i (by omega)) (by omega) (by omega)

/-! ### hang: place by place -/
/-- what stands above behind i turns of the loop -/
def hung (above : List Nat) (x s p : Nat) (i : Nat) : List Nat := (List.range 8).map fun j => if s < j ∧ j < s + 1 + i ∧ x.testBit j = true ∧ at_ above j = p then s else at_ above j
theorem hung_len (above : List Nat) (x s p i : Nat) : (hung above x s p i).length = 8 := by
  unfold hung
  rw [List.length_map, List.length_range]
theorem at_hung {above : List Nat} {x s p i j : Nat} (h : j < 8) : at_ (hung above x s p i) j = if s < j ∧ j < s + 1 + i ∧ x.testBit j = true ∧ at_ above j = p then s else at_ above j := at_map_range h
theorem hung_zero {above : List Nat} {x s p : Nat} (h : above.length = 8) : hung above x s p 0 = above := by
  refine ext_at (by rw [hung_len, h]) fun i hi => ?_
  rw [hung_len] at hi
  rw [at_hung hi, if_neg (by omega)]
theorem hung_here {above : List Nat} {x s p i : Nat} (h : s + 1 + i < 8) : at_ (hung above x s p i) (s + 1 + i) = at_ above (s + 1 + i) := by
  rw [at_hung h, if_neg (by omega)]
theorem hung_yes {above : List Nat} {x s p i : Nat} (h : s + 1 + i < 8) (c : at_ above (s + 1 + i) = p) (d : x.testBit (s + 1 + i) = true) : (hung above x s p i).set (s + 1 + i) s = hung above x s p (i + 1) := by
  refine ext_at (by rw [List.length_set, hung_len, hung_len]) fun j hj => ?_
  rw [List.length_set, hung_len] at hj
  rw [at_set (by rw [hung_len]; exact h), at_hung hj, at_hung hj]
  by_cases e : j = s + 1 + i
  · subst e
    rw [if_pos rfl, if_pos ⟨by omega, by omega, d, c⟩]
  · rw [if_neg e]
    by_cases q : s < j ∧ j < s + 1 + i ∧ x.testBit j = true ∧ at_ above j = p
    · rw [if_pos q, if_pos ⟨q.1, by omega, q.2.2⟩]
    · rw [if_neg q, if_neg fun z => q ⟨z.1, by omega, z.2.2⟩]
theorem hung_no {above : List Nat} {x s p i : Nat} (h : s + 1 + i < 8) (c : ¬ (at_ above (s + 1 + i) = p ∧ x.testBit (s + 1 + i) = true)) : hung above x s p i = hung above x s p (i + 1) := by
  refine ext_at (by rw [hung_len, hung_len]) fun j hj => ?_
  rw [hung_len] at hj
  rw [at_hung hj, at_hung hj]
  by_cases q : s < j ∧ j < s + 1 + i ∧ x.testBit j = true ∧ at_ above j = p
  · rw [if_pos q, if_pos ⟨q.1, by omega, q.2.2⟩]
  · rw [if_neg q, if_neg fun z => ?_]
    by_cases e : j = s + 1 + i
    · subst e
      exact c ⟨z.2.2.2, z.2.2.1⟩
    · exact q ⟨z.1, by omega, z.2.2⟩
theorem hung_end {f : Nat → Nat} {t : Tree} {s : Nat} (h : s < 8) : growF f t s = ⟨hung t.above (cutF f s (at_ t.above s)) s (at_ t.above s) (7 - s), t.much.set s (f (cutF f s (at_ t.above s)))⟩ := by
  show Tree.mk _ _ = Tree.mk _ _
  refine congrArg (fun l => Tree.mk l (t.much.set s (f (cutF f s (at_ t.above s))))) ?_
  show _ = (List.range 8).map _
  apply List.map_congr_left
  intro i hi
  have hi := List.mem_range.mp hi
  have e : (s < i ∧ (cutF f s (at_ t.above s)).testBit i = true ∧ at_ t.above i = at_ t.above s) = (s < i ∧ i < s + 1 + (7 - s) ∧ (cutF f s (at_ t.above s)).testBit i = true ∧ at_ t.above i = at_ t.above s) := by
    apply propext
    constructor
    · intro q; exact ⟨q.1, by omega, q.2⟩
    · intro q; exact ⟨q.1, q.2.2⟩
  show (if s < i ∧ (cutF f s (at_ t.above s)).testBit i = true ∧ at_ t.above i = at_ t.above s then s else at_ t.above i) = _
  simp only [e]

/-! ### the way between two places -/
/-- the program's way: the weights from two places until they meet; the first number only sees to an end -/
def way (t : Tree) : Nat → Nat → Nat → List Nat
  | 0, _, _ => []
  | g + 1, a, b => if a = b then [] else if b < a then at_ t.much a :: way t g (at_ t.above a) b else at_ t.much b :: way t g a (at_ t.above b)
def mins (m : Nat) (l : List Nat) : Nat := l.foldl min m
theorem mins_mid (m : Nat) (x y : List Nat) (w : Nat) : mins m (x ++ w :: y) = min w (mins m (x ++ y)) := by
  have out : ∀ (y : List Nat) (m w : Nat), y.foldl min (min m w) = min w (y.foldl min m) := by
    intro y
    induction y with
    | nil => intro m w; exact Nat.min_comm _ _
    | cons z r ih =>
      intro m w
      rw [List.foldl_cons, List.foldl_cons, ← ih (min m z) w]
      congr 1
      omega
  unfold mins
  rw [List.foldl_append, List.foldl_append, List.foldl_cons, out]
theorem up_fuel (t : Tree) (h : TreeOk t) : ∀ (g g' k : Nat), k ≤ g → k ≤ g' → k < 8 → t.up g k = t.up g' k
  | 0, g', k, h1, _, _ => by
    obtain rfl : k = 0 := by omega
    cases g' with
    | zero => rfl
    | succ g' => exact (if_pos rfl).symm
  | g + 1, 0, k, _, h2, _ => by
    obtain rfl : k = 0 := by omega
    exact if_pos rfl
  | g + 1, g' + 1, k, h1, h2, h8 => by
    show (if k = 0 then [] else (k, at_ t.much k) :: t.up g (at_ t.above k)) = (if k = 0 then [] else (k, at_ t.much k) :: t.up g' (at_ t.above k))
    by_cases e : k = 0
    · rw [if_pos e, if_pos e]
    · rw [if_neg e, if_neg e]
      have u := h.up k (by omega) h8
      rw [up_fuel t h g g' (at_ t.above k) (by omega) (by omega) (by omega)]
theorem up_step (t : Tree) (h : TreeOk t) {k : Nat} (h0 : 0 < k) (h8 : k < 8) : t.up 8 k = (k, at_ t.much k) :: t.up 8 (at_ t.above k) := by
  have u := h.up k h0 h8
  show (if k = 0 then [] else (k, at_ t.much k) :: t.up 7 (at_ t.above k)) = _
  rw [if_neg (by omega), up_fuel t h 7 8 (at_ t.above k) (by omega) (by omega) (by omega)]
/-- on the way up there are no greater places -/
theorem up_le (t : Tree) (h : TreeOk t) : ∀ (g k : Nat), k < 8 → ∀ q ∈ t.up g k, q.1 ≤ k
  | 0, _, _, q, m => by cases m
  | g + 1, k, h8, q, m => by
    have m' : q ∈ (if k = 0 then [] else (k, at_ t.much k) :: t.up g (at_ t.above k)) := m
    by_cases e : k = 0
    · rw [if_pos e] at m'
      cases m'
    · rw [if_neg e] at m'
      rcases List.mem_cons.mp m' with r | r
      · rw [r]; exact Nat.le_refl _
      · have u := h.up k (by omega) h8
        have := up_le t h g (at_ t.above k) (by omega) q r
        omega
def off (x y : List (Nat × Nat)) : List (Nat × Nat) := x.filter fun p => !(y.any fun q => q.1 == p.1)
theorem off_cons_in {p : Nat × Nat} {x y : List (Nat × Nat)} (h : ∀ q ∈ y, q.1 < p.1) : off (p :: x) y = p :: off x y := by
  unfold off
  rw [List.filter_cons_of_pos]
  have e : (y.any fun q => q.1 == p.1) = false := by
    rw [List.any_eq_false]
    intro q m
    have := h q m
    simp only [beq_iff_eq]
    omega
  rw [e]
  rfl
theorem off_cons_out {p : Nat × Nat} {x y : List (Nat × Nat)} (h : ∀ q ∈ y, q.1 < p.1) : off y (p :: x) = off y x := by
  unfold off
  apply List.filter_congr
  intro q m
  rw [List.any_cons]
  have := h q m
  have e : (p.1 == q.1) = false := by
    rw [beq_eq_false_iff_ne]
    omega
  rw [e, Bool.false_or]
theorem off_self (x : List (Nat × Nat)) : off x x = [] := by
  unfold off
  rw [List.filter_eq_nil_iff]
  intro p m
  have e : (x.any fun q => q.1 == p.1) = true := List.any_eq_true.mpr ⟨p, m, by simp⟩
  rw [e]
  simp
def leastF (t : Tree) (x y : List (Nat × Nat)) : Nat := mins 24000 ((off x y ++ off y x).map (·.2))
theorem least_eq (t : Tree) (a b : Nat) : t.least a b = leastF t (t.up 8 a) (t.up 8 b) := by
  show (off (t.up 8 a) (t.up 8 b) ++ off (t.up 8 b) (t.up 8 a)).foldl (fun m p => min m p.2) 24000 = _
  unfold leastF mins
  rw [List.foldl_map]
theorem way_least (t : Tree) (h : TreeOk t) : ∀ (g a b : Nat), a < 8 → b < 8 → a + b ≤ g → t.least a b = mins 24000 (way t g a b)
  | 0, a, b, _, _, hg => by
    obtain rfl : a = 0 := by omega
    obtain rfl : b = 0 := by omega
    rw [least_eq]
    unfold leastF
    rw [off_self]
    rfl
  | g + 1, a, b, ha, hb, hg => by
    show _ = mins 24000 (if a = b then [] else if b < a then at_ t.much a :: way t g (at_ t.above a) b else at_ t.much b :: way t g a (at_ t.above b))
    by_cases e : a = b
    · subst e
      rw [if_pos rfl, least_eq]
      unfold leastF
      rw [off_self]
      rfl
    · rw [if_neg e]
      by_cases c : b < a
      · have u := h.up a (by omega) ha
        have l : ∀ q ∈ t.up 8 b, q.1 < a := fun q m => by
          have := up_le t h 8 b hb q m
          omega
        rw [if_pos c, least_eq, up_step t h (by omega) ha]
        unfold leastF
        rw [off_cons_in l, off_cons_out l, List.cons_append, List.map_cons]
        have z := mins_mid 24000 [] ((off (t.up 8 (at_ t.above a)) (t.up 8 b) ++ off (t.up 8 b) (t.up 8 (at_ t.above a))).map (·.2)) (at_ t.much a)
        have z2 := mins_mid 24000 [] (way t g (at_ t.above a) b) (at_ t.much a)
        rw [List.nil_append, List.nil_append] at z z2
        rw [z, z2, ← way_least t h g (at_ t.above a) b (by omega) hb (by omega), least_eq]
        rfl
      · have u := h.up b (by omega) hb
        have l : ∀ q ∈ t.up 8 a, q.1 < b := fun q m => by
          have := up_le t h 8 a ha q m
          omega
        rw [if_neg c, least_eq, up_step t h (by omega) hb]
        unfold leastF
        rw [off_cons_in l, off_cons_out l, List.map_append, List.map_cons]
        have z := mins_mid 24000 ((off (t.up 8 a) (t.up 8 (at_ t.above b))).map (·.2)) ((off (t.up 8 (at_ t.above b)) (t.up 8 a)).map (·.2)) (at_ t.much b)
        have z2 := mins_mid 24000 [] (way t g a (at_ t.above b)) (at_ t.much b)
        rw [List.nil_append, List.nil_append] at z2
        rw [z, z2, ← way_least t h g a (at_ t.above b) ha (by omega) (by omega), least_eq]
        unfold leastF
        rw [List.map_append]
/-- a least number of a list that has one -/
theorem mins_is {l : List Nat} {m : Nat} (hm : m ∈ l) (hle : ∀ x ∈ l, m ≤ x) (hc : m ≤ 24000) : mins 24000 l = m := by
  have lo : ∀ (l : List Nat) (c : Nat), (∀ x ∈ l, m ≤ x) → m ≤ c → m ≤ l.foldl min c := by
    intro l
    induction l with
    | nil => intro c _ h; exact h
    | cons x r ih =>
      intro c h hc
      have hx := h x (List.mem_cons_self ..)
      exact ih (min c x) (fun y q => h y (List.mem_cons_of_mem _ q)) (by omega)
  have hi0 : ∀ (l : List Nat) (c : Nat), l.foldl min c ≤ c := by
    intro l
    induction l with
    | nil => intro c; exact Nat.le_refl _
    | cons x r ih =>
      intro c
      have := ih (min c x)
      show r.foldl min (min c x) ≤ c
      omega
  have hi : ∀ (l : List Nat) (c : Nat), m ∈ l → l.foldl min c ≤ m := by
    intro l
    induction l with
    | nil => intro c q; cases q
    | cons x r ih =>
      intro c q
      rcases List.mem_cons.mp q with e | q
      · have := hi0 r (min c x)
        show r.foldl min (min c x) ≤ m
        omega
      · exact ih (min c x) q
  have h1 := lo l 24000 hle hc
  have h2 := hi l 24000 hm
  show l.foldl min 24000 = m
  omega
theorem way_w (t : Tree) (h : TreeOk t) : ∀ (g a b : Nat), a < 8 → b < 8 → ∀ x ∈ way t g a b, x ≤ 24000
  | 0, _, _, _, _, x, m => by cases m
  | g + 1, a, b, ha, hb, x, m => by
    have m' : x ∈ (if a = b then [] else if b < a then at_ t.much a :: way t g (at_ t.above a) b else at_ t.much b :: way t g a (at_ t.above b)) := m
    by_cases e : a = b
    · rw [if_pos e] at m'; cases m'
    · rw [if_neg e] at m'
      by_cases c : b < a
      · rw [if_pos c] at m'
        rcases List.mem_cons.mp m' with q | q
        · rw [q]; exact h.w a ha
        · have u := h.up a (by omega) ha
          exact way_w t h g _ b (by omega) hb x q
      · rw [if_neg c] at m'
        rcases List.mem_cons.mp m' with q | q
        · rw [q]; exact h.w b hb
        · have u := h.up b (by omega) hb
          exact way_w t h g a _ ha (by omega) x q
end Tc

namespace Tc
open Km361

/-! ### a net's answers, call by call -/
theorem line_getD {n : Net} (h : NetOk n) {k : Nat} (hk : 24 ≤ k) : n.line k = none := by
  show n.lines.getD k none = none
  rw [List.getD_eq_getElem?_getD, List.getElem?_eq_none (by rw [h.len]; exact hk)]
  rfl
theorem line_at {n : Net} {k : Nat} {o : Option Line} (h : n.lines[k]? = some o) : n.line k = o := by
  show n.lines.getD k none = o
  rw [List.getD_eq_getElem?_getD, h]
  rfl
theorem line_ok {n : Net} (h : NetOk n) {k : Nat} {l : Line} (e : n.line k = some l) : LineOk l := by
  have e' : (n.lines[k]?).getD none = some l := by rw [← List.getD_eq_getElem?_getD]; exact e
  cases q : n.lines[k]? with
  | none => rw [q] at e'; cases e'
  | some o =>
    rw [q] at e'
    have e'' : o = some l := e'
    rw [e''] at q
    exact h.each l (List.mem_of_getElem? q)
/-- the least free number by going through the lines -/
theorem free_none {n : Net} (h : ∀ k, k < 24 → n.line k ≠ none) : n.free = none := by
  show (List.range 24).find? (fun k => (n.line k).isNone) = none
  rw [List.find?_eq_none]
  intro k m
  have := h k (List.mem_range.mp m)
  cases q : n.line k with
  | none => exact absurd q this
  | some l => simp
theorem free_some {n : Net} {k : Nat} (hk : k < 24) (h : ∀ j, j < k → n.line j ≠ none) (e : n.line k = none) : n.free = some k := by
  show (List.range 24).find? (fun k => (n.line k).isNone) = some k
  rw [List.find?_range_eq_some]
  refine ⟨by rw [e]; rfl, List.mem_range.mpr hk, fun j hj => ?_⟩
  cases q : n.line j with
  | none => exact absurd q (h j hj)
  | some l => rfl
theorem free_is {n : Net} {k : Nat} (e : n.free = some k) : k < 24 ∧ n.line k = none := by
  have e' : (List.range 24).find? (fun k => (n.line k).isNone) = some k := e
  have h1 := List.mem_of_find?_eq_some e'
  have h2 := List.find?_some e'
  exact ⟨List.mem_range.mp h1, Option.isNone_iff_eq_none.mp h2⟩
def okNat (a b : Nat) : Bool := okPair a b
theorem okPair_true {a b : Nat} (h : okPair a b = true) : a < 8 ∧ b < 8 ∧ a ≠ b := by
  unfold okPair at h
  rw [Bool.and_eq_true, Bool.and_eq_true] at h
  exact ⟨of_decide_eq_true h.1, of_decide_eq_true h.2.1, of_decide_eq_true h.2.2⟩
theorem act_ok {n : Net} (h : NetOk n) (c : Call) : NetOk (act n c).1 := by
  cases c with
  | start => exact fresh_ok
  | line a b m =>
    show NetOk (if okPair a b = false ∨ MOST < m then (n, only (-22)) else match n.free with
      | none => (n, only (-28))
      | some k => (⟨n.lines.set k (some ⟨a, b, m⟩)⟩, only ((k : Nat) : Int))).1
    by_cases c : okPair a b = false ∨ MOST < m
    · rw [if_pos c]; exact h
    · rw [if_neg c]
      cases q : n.free with
      | none => exact h
      | some k =>
        have c1 : okPair a b = true := by
          cases z : okPair a b with
          | true => rfl
          | false => exact absurd (.inl z) c
        have c2 : m ≤ 1000 := Nat.le_of_not_lt fun z => c (.inr z)
        obtain ⟨ha, hb, _⟩ := okPair_true c1
        exact set_ok h k _ fun l e => by
          cases Option.some.inj e
          exact ⟨ha, hb, c2⟩
  | drop k =>
    show NetOk (if (n.line k).isNone = true then (n, only (-2)) else (⟨n.lines.set k none⟩, only 0)).1
    split
    · exact h
    · exact set_ok h k _ fun l e => by cases e
  | wide k m =>
    show NetOk (if MOST < m then (n, only (-22)) else match n.line k with
      | none => (n, only (-2))
      | some l => (⟨n.lines.set k (some ⟨l.a, l.b, m⟩)⟩, only 0)).1
    by_cases c : MOST < m
    · rw [if_pos c]; exact h
    · rw [if_neg c]
      cases q : n.line k with
      | none => exact h
      | some l =>
        have ho := line_ok h q
        exact set_ok h k _ fun l' e => by
          cases Option.some.inj e
          exact ⟨ho.a8, ho.b8, Nat.le_of_not_lt c⟩
  | between a b => exact h
  | tree => exact h
  | told a b => exact h
  | edge s => exact h
  | weakest => exact h

/-! ### a call's numbers -/
def asInts (l : List Nat) : List Int := l.map fun (x : Nat) => (x : Int)
/-- how many numbers come behind a call's own -/
def behind (p : Int) : Nat := if p = 1 then 3 else if p = 2 then 1 else if p = 3 then 2 else if p = 4 then 2 else if p = 6 then 2 else if p = 7 then 1 else 0
/-- a call by its numbers -/
def callN (p : Int) : List Nat → Option Km361.Call
  | [] => if p = 0 then some .start else if p = 5 then some .tree else if p = 8 then some .weakest else none
  | [a] => if p = 2 then some (.drop a) else if p = 7 then some (.edge a) else none
  | [a, b] => if p = 3 then some (.wide a b) else if p = 4 then some (.between a b) else if p = 6 then some (.told a b) else none
  | [a, b, m] => if p = 1 then some (.line a b m) else none
  | _ => none
/-- what a call answers, number by number -/
def said (a : Ans) : List Int := Km361Neutral.told a

theorem whole_id (c : List (List Int)) : PyKm361.whole c = c := by
  unfold PyKm361.whole
  split <;> rfl
theorem map_whole (cs : List (List (List Int))) : cs.map PyKm361.whole = cs := by
  have e : PyKm361.whole = id := funext whole_id
  rw [e, List.map_id]
/-- what is to be read is a row of calls, from a state on, all that is due of them -/
structure Go (l : List Int) (s : Km361Neutral.S) (due : List Int) : Prop where
  ex : ∃ (f : Nat) (cs : List (List (List Int))), PyFlat.calls PyKm361.shape f l = some cs ∧ PyInside.calls PyKm361.bound cs = true ∧ Km361Neutral.may s cs = true ∧
    due = PyFlat.told (PyFlat.played Km361Neutral.step s cs)
theorem go_nil {s : Km361Neutral.S} {due : List Int} (h : Go [] s due) : due = [] := by
  obtain ⟨f, cs, e, _, _, d⟩ := h.ex
  have e' : some [] = some cs := by
    cases f with
    | zero => exact e
    | succ f => exact e
  cases e'
  exact d
/-- a call without rows -/
theorem call_flat {p : Int} {k : Nat} {r : List Int} (h : PyKm361.shape p = some (k, 0)) : PyFlat.call PyKm361.shape (p :: r) = if r.length < k then none else some ([p :: r.take k], r.drop k) := by
  show (match PyKm361.shape p with
    | none => none
    | some (n, k) => if r.length < n then none else match PyFlat.rows k (r.drop n) with
      | none => none
      | some (xs, t) => some ((p :: r.take n) :: xs, t)) = _
  rw [h]
  rfl
theorem shape_flat {p : Int} {q : Nat × Nat} (h : PyKm361.shape p = some q) : q = (behind p, 0) ∧ 0 ≤ p ∧ p ≤ 8 := by
  unfold PyKm361.shape at h
  unfold behind
  by_cases c0 : p = 0
  · subst c0; rw [if_pos rfl] at h; cases h; exact ⟨rfl, by decide, by decide⟩
  rw [if_neg c0] at h
  by_cases c1 : p = 1
  · subst c1; rw [if_pos rfl] at h; cases h; exact ⟨rfl, by decide, by decide⟩
  rw [if_neg c1] at h
  by_cases c2 : p = 2
  · subst c2; rw [if_pos rfl] at h; cases h; exact ⟨rfl, by decide, by decide⟩
  rw [if_neg c2] at h
  by_cases c3 : p = 3
  · subst c3; rw [if_pos rfl] at h; cases h; exact ⟨rfl, by decide, by decide⟩
  rw [if_neg c3] at h
  by_cases c4 : p = 4
  · subst c4; rw [if_pos rfl] at h; cases h; exact ⟨rfl, by decide, by decide⟩
  rw [if_neg c4] at h
  by_cases c5 : p = 5
  · subst c5; rw [if_pos rfl] at h; cases h; exact ⟨rfl, by decide, by decide⟩
  rw [if_neg c5] at h
  by_cases c6 : p = 6
  · subst c6; rw [if_pos rfl] at h; cases h; exact ⟨rfl, by decide, by decide⟩
  rw [if_neg c6] at h
  by_cases c7 : p = 7
  · subst c7; rw [if_pos rfl] at h; cases h; exact ⟨rfl, by decide, by decide⟩
  rw [if_neg c7] at h
  by_cases c8 : p = 8
  · subst c8; rw [if_pos rfl] at h; cases h; exact ⟨rfl, by decide, by decide⟩
  rw [if_neg c8] at h
  cases h
theorem asInts_len (l : List Nat) : (asInts l).length = l.length := List.length_map ..
/-- numbers that are not negative are whole numbers -/
theorem asInts_of : ∀ l : List Int, (∀ x ∈ l, 0 ≤ x) → ∃ m : List Nat, l = asInts m
  | [], _ => ⟨[], rfl⟩
  | x :: r, h => by
    obtain ⟨m, e⟩ := asInts_of r fun y q => h y (List.mem_cons_of_mem _ q)
    refine ⟨x.toNat :: m, ?_⟩
    have := h x (List.mem_cons_self ..)
    show x :: r = ((x.toNat : Nat) : Int) :: asInts m
    rw [e, Int.toNat_of_nonneg this]
theorem within_nn {x : Int} (h : PyInside.within 0 4294967295 x = true) : 0 ≤ x := by
  unfold PyInside.within at h
  rw [Bool.and_eq_true] at h
  exact of_decide_eq_true h.1
/-- a call by the numbers that the list has, and what the bounds tell -/
theorem call_of {p : Int} {l : List Int} (h0 : 0 ≤ p) (h8 : p ≤ 8) (hl : l.length = behind p) (hb : PyInside.call PyKm361.bound [p :: l] = true) : ∃ args c, l = asInts args ∧ callN p args = some c ∧ Km361Neutral.callOf [p :: l] = some c := by
  have hb' : (PyInside.each (PyKm361.bound p).1 l && PyInside.lists (PyKm361.bound p).2 []) = true := hb
  rw [Bool.and_eq_true] at hb'
  have hb := hb'.1
  have cs : p = 0 ∨ p = 1 ∨ p = 2 ∨ p = 3 ∨ p = 4 ∨ p = 5 ∨ p = 6 ∨ p = 7 ∨ p = 8 := by omega
  rcases cs with c | c | c | c | c | c | c | c | c
  · subst c
    obtain rfl : l = [] := List.length_eq_zero_iff.mp hl
    exact ⟨[], _, rfl, rfl, rfl⟩
  · subst c
    match l, hl, hb with
    | [a, b, m], _, hb =>
      have hb2 : (PyInside.within 0 4294967295 a && (PyInside.within 0 4294967295 b && (PyInside.within 0 4294967295 m && true))) = true := hb
      rw [Bool.and_eq_true, Bool.and_eq_true, Bool.and_eq_true] at hb2
      have ha := within_nn hb2.1
      have hb3 := within_nn hb2.2.1
      have hm := within_nn hb2.2.2.1
      refine ⟨[a.toNat, b.toNat, m.toNat], .line a.toNat b.toNat m.toNat, ?_, rfl, rfl⟩
      show [a, b, m] = [((a.toNat : Nat) : Int), ((b.toNat : Nat) : Int), ((m.toNat : Nat) : Int)]
      rw [Int.toNat_of_nonneg ha, Int.toNat_of_nonneg hb3, Int.toNat_of_nonneg hm]
  · subst c
    match l, hl, hb with
    | [a], _, hb =>
      have hb2 : (PyInside.within 0 4294967295 a && true) = true := hb
      rw [Bool.and_eq_true] at hb2
      have ha := within_nn hb2.1
      refine ⟨[a.toNat], .drop a.toNat, ?_, rfl, rfl⟩
      show [a] = [((a.toNat : Nat) : Int)]
      rw [Int.toNat_of_nonneg ha]
  · subst c
    match l, hl, hb with
    | [a, b], _, hb =>
      have hb2 : (PyInside.within 0 4294967295 a && (PyInside.within 0 4294967295 b && true)) = true := hb
      rw [Bool.and_eq_true, Bool.and_eq_true] at hb2
      have ha := within_nn hb2.1
      have hb3 := within_nn hb2.2.1
      refine ⟨[a.toNat, b.toNat], .wide a.toNat b.toNat, ?_, rfl, rfl⟩
      show [a, b] = [((a.toNat : Nat) : Int), ((b.toNat : Nat) : Int)]
      rw [Int.toNat_of_nonneg ha, Int.toNat_of_nonneg hb3]
  · subst c
    match l, hl, hb with
    | [a, b], _, hb =>
      have hb2 : (PyInside.within 0 4294967295 a && (PyInside.within 0 4294967295 b && true)) = true := hb
      rw [Bool.and_eq_true, Bool.and_eq_true] at hb2
      have ha := within_nn hb2.1
      have hb3 := within_nn hb2.2.1
      refine ⟨[a.toNat, b.toNat], .between a.toNat b.toNat, ?_, rfl, rfl⟩
      show [a, b] = [((a.toNat : Nat) : Int), ((b.toNat : Nat) : Int)]
      rw [Int.toNat_of_nonneg ha, Int.toNat_of_nonneg hb3]
  · subst c
    obtain rfl : l = [] := List.length_eq_zero_iff.mp hl
    exact ⟨[], _, rfl, rfl, rfl⟩
  · subst c
    match l, hl, hb with
    | [a, b], _, hb =>
      have hb2 : (PyInside.within 0 4294967295 a && (PyInside.within 0 4294967295 b && true)) = true := hb
      rw [Bool.and_eq_true, Bool.and_eq_true] at hb2
      have ha := within_nn hb2.1
      have hb3 := within_nn hb2.2.1
      refine ⟨[a.toNat, b.toNat], .told a.toNat b.toNat, ?_, rfl, rfl⟩
      show [a, b] = [((a.toNat : Nat) : Int), ((b.toNat : Nat) : Int)]
      rw [Int.toNat_of_nonneg ha, Int.toNat_of_nonneg hb3]
  · subst c
    match l, hl, hb with
    | [a], _, hb =>
      have hb2 : (PyInside.within 0 4294967295 a && true) = true := hb
      rw [Bool.and_eq_true] at hb2
      have ha := within_nn hb2.1
      refine ⟨[a.toNat], .edge a.toNat, ?_, rfl, rfl⟩
      show [a] = [((a.toNat : Nat) : Int)]
      rw [Int.toNat_of_nonneg ha]
  · subst c
    obtain rfl : l = [] := List.length_eq_zero_iff.mp hl
    exact ⟨[], _, rfl, rfl, rfl⟩
theorem callN_start {p : Int} {args : List Nat} {c : Call} (h : callN p args = some c) : p = 0 ↔ c = .start := by
  unfold callN at h
  constructor
  · intro e
    subst e
    split at h <;> simp at h <;> first | exact h.symm | (obtain ⟨_, h⟩ := h; exact h.symm)
  · intro e
    subst e
    split at h <;> (repeat' split at h) <;> first | assumption | (cases h)
theorem isStart_iff (c : Call) : Km361Neutral.isStart c = true ↔ c = .start := by
  cases c <;> simp [Km361Neutral.isStart]
/-- one call: its numbers, what it answers, and what is left -/
structure OneCall (p : Int) (r : List Int) (s : Km361Neutral.S) (due : List Int) : Prop where
  ex : ∃ (args : List Nat) (r' : List Int) (c : Call) (due' : List Int), r = asInts args ++ r' ∧ args.length = behind p ∧ 0 ≤ p ∧ p ≤ 8 ∧ callN p args = some c ∧
    (∀ n, (s = some n ∨ (p = 0 ∧ n = fresh)) → due = ((said (act n c).2).length : Int) :: (said (act n c).2 ++ due') ∧ Go r' (some (act n c).1) due') ∧ (s = none → p = 0)
theorem told_cons (a : List Int) (r : List (List Int)) : PyFlat.told (a :: r) = (a.length : Int) :: (a ++ PyFlat.told r) := by
  show ((a.length : Int) :: a) ++ PyFlat.told r = _
  rfl
theorem step_some {n : Net} {c : List (List Int)} {x : Call} (h : Km361Neutral.callOf c = some x) : Km361Neutral.step (some n) c = (some (act n x).1, said (act n x).2) := by
  unfold Km361Neutral.step
  rw [h]
  rfl
theorem step_none {c : List (List Int)} {x : Call} (h : Km361Neutral.callOf c = some x) (hx : x ≠ .start) : Km361Neutral.step none c = (none, []) := by
  unfold Km361Neutral.step
  rw [h]
  have e : Km361Neutral.isStart x = false := by
    cases q : Km361Neutral.isStart x with
    | false => rfl
    | true => exact absurd ((isStart_iff x).mp q) hx
  show (if Km361Neutral.isStart x = true then _ else _) = _
  rw [e]
  rfl
theorem step_start {c : List (List Int)} (h : Km361Neutral.callOf c = some .start) : Km361Neutral.step none c = (some fresh, [0]) := by
  unfold Km361Neutral.step
  rw [h]
  rfl
theorem go_step {p : Int} {r : List Int} {s : Km361Neutral.S} {due : List Int} (h : Go (p :: r) s due) : OneCall p r s due := by
  obtain ⟨f, cs, e, hb, hm, d⟩ := h.ex
  cases f with
  | zero =>
    have e' : (none : Option (List (List (List Int)))) = some cs := e
    cases e'
  | succ f =>
    have e' : (match PyFlat.call PyKm361.shape (p :: r) with
      | none => none
      | some (c, t) => match PyFlat.calls PyKm361.shape f t with
        | none => none
        | some cs => some (c :: cs)) = some cs := e
    cases q : PyKm361.shape p with
    | none =>
      have e2 : PyFlat.call PyKm361.shape (p :: r) = none := by
        show (match PyKm361.shape p with
          | none => none
          | some (n, k) => if r.length < n then none else match PyFlat.rows k (r.drop n) with
            | none => none
            | some (xs, t) => some ((p :: r.take n) :: xs, t)) = _
        rw [q]
      rw [e2] at e'
      cases e'
    | some w =>
      obtain ⟨ew, h0, h8⟩ := shape_flat q
      subst ew
      rw [call_flat q] at e'
      by_cases hl : r.length < behind p
      · rw [if_pos hl] at e'
        cases e'
      · rw [if_neg hl] at e'
        cases q2 : PyFlat.calls PyKm361.shape f (r.drop (behind p)) with
        | none =>
          have e3 : (match PyFlat.calls PyKm361.shape f (r.drop (behind p)) with
            | none => none
            | some cs => some ([p :: r.take (behind p)] :: cs)) = some cs := e'
          rw [q2] at e3
          cases e3
        | some cs' =>
          have e3 : (match PyFlat.calls PyKm361.shape f (r.drop (behind p)) with
            | none => none
            | some cs => some ([p :: r.take (behind p)] :: cs)) = some cs := e'
          rw [q2] at e3
          have e4 : [p :: r.take (behind p)] :: cs' = cs := Option.some.inj e3
          subst e4
          have hb2 : (PyInside.call PyKm361.bound [p :: r.take (behind p)] && PyInside.calls PyKm361.bound cs') = true := hb
          rw [Bool.and_eq_true] at hb2
          have hlen : (r.take (behind p)).length = behind p := by
            rw [List.length_take]
            omega
          obtain ⟨args, c, ea, en, eo⟩ := call_of h0 h8 hlen hb2.1
          have hm2 : (!((Km361Neutral.step s [p :: r.take (behind p)]).2.isEmpty) && Km361Neutral.may (Km361Neutral.step s [p :: r.take (behind p)]).1 cs') = true := hm
          rw [Bool.and_eq_true] at hm2
          have d2 : due = PyFlat.told ((Km361Neutral.step s [p :: r.take (behind p)]).2 :: PyFlat.played Km361Neutral.step (Km361Neutral.step s [p :: r.take (behind p)]).1 cs') := d
          refine ⟨args, r.drop (behind p), c, PyFlat.told (PyFlat.played Km361Neutral.step (Km361Neutral.step s [p :: r.take (behind p)]).1 cs'), ?_, ?_, h0, h8, en, ?_, ?_⟩
          · rw [← ea, List.take_append_drop]
          · rw [← hlen, ea, asInts_len]
          · intro n hs
            have st : Km361Neutral.step s [p :: r.take (behind p)] = (some (act n c).1, said (act n c).2) := by
              rcases hs with hs | ⟨hp, hn⟩
              · rw [hs]
                exact step_some eo
              · have ec : c = .start := (callN_start en).mp hp
                subst ec
                cases s with
                | none => rw [step_start eo]; rfl
                | some m => rw [step_some eo]; rfl
            rw [st] at d2 hm2 ⊢
            refine ⟨?_, ⟨f, cs', q2, hb2.2, hm2.2, rfl⟩⟩
            rw [d2, told_cons]
          · intro hs
            subst hs
            cases Classical.em (p = 0) with
            | inl z => exact z
            | inr z =>
              have nz : c ≠ .start := fun k => z ((callN_start en).mpr k)
              rw [step_none eo nz] at hm2
              exact absurd hm2.1 (by simp)
/-- what is asked of the whole list -/
theorem asked_go {l : List Int} (h : PyKm361.answers_asked l = true) : Go l none (PyKm361.answers l) ∧ (PyKm361.answers l).length ≤ 10000000 := by
  have h' : (match PyFlat.calls PyKm361.shape l.length l with
    | none => false
    | some raw => !raw.isEmpty && PyFlat.atMost 1000 raw && PyInside.calls PyKm361.bound raw && Km361Neutral.asked (raw.map PyKm361.whole) && PyFlat.short 10000000 (PyKm361.answers l)) = true := h
  cases q : PyFlat.calls PyKm361.shape l.length l with
  | none => rw [q] at h'; cases h'
  | some raw =>
    rw [q] at h'
    have h2 : (!raw.isEmpty && PyFlat.atMost 1000 raw && PyInside.calls PyKm361.bound raw && Km361Neutral.asked (raw.map PyKm361.whole) && PyFlat.short 10000000 (PyKm361.answers l)) = true := h'
    rw [Bool.and_eq_true, Bool.and_eq_true, Bool.and_eq_true, Bool.and_eq_true, map_whole] at h2
    obtain ⟨⟨⟨⟨_, _⟩, hb⟩, ha⟩, hs⟩ := h2
    have hm : Km361Neutral.may none raw = true := by
      unfold Km361Neutral.asked at ha
      rw [Bool.and_eq_true, Bool.and_eq_true, Bool.and_eq_true] at ha
      exact ha.2.2.2
    refine ⟨⟨l.length, raw, q, hb, hm, ?_⟩, of_decide_eq_true hs⟩
    have e : PyKm361.calls l = some raw := by
      unfold PyKm361.calls
      rw [q]
      exact congrArg some (map_whole raw)
    unfold PyKm361.answers
    rw [e]
    rfl
end Tc

namespace Tc
open PySem PySem.Spec PyProof.Rows L2

/-! ### the text by places -/
def top (i : Nat) : Stmt := PySem.Challenge.pw_treeofcuts_s01_answers.main.body.getD i (.Pass ⟨0, 0, 0, 0⟩)
abbrev sLine0 : Stmt := inClass (top 5) 0
abbrev sNet0 : Stmt := inClass (top 6) 0
abbrev sFree : Stmt := top 7
abbrev sHas : Stmt := top 8
abbrev sPlace : Stmt := top 9
abbrev sOver : Stmt := top 10
abbrev sEdge : Stmt := top 11
abbrev sEdges : Stmt := top 12
abbrev sLeast : Stmt := top 14
abbrev sCut : Stmt := top 15
abbrev sWeak : Stmt := top 16
abbrev sTree0 : Stmt := inClass (top 18) 0
abbrev sHang : Stmt := top 19
abbrev sTree : Stmt := top 20
abbrev sLB : Stmt := top 21
abbrev sTwo : Stmt := top 23
abbrev sD1 : Stmt := top 24
abbrev sD2 : Stmt := top 25
abbrev sD3 : Stmt := top 26
abbrev sD4 : Stmt := top 27
abbrev sD5 : Stmt := top 28
abbrev sD6 : Stmt := top 29
abbrev sD7 : Stmt := top 30
abbrev sD8 : Stmt := top 31
abbrev sAns : Stmt := top 36

/-! ### values and objects -/
def iv (n : Nat) : V := .int (n : Int)
def ivs (l : List Nat) : List V := l.map iv
theorem ivs_at {l : List Nat} {i : Nat} (h : i < l.length) : (ivs l)[i]? = some (iv (Km361.at_ l i)) := by
  unfold ivs
  rw [List.getElem?_map, at_get h]
  rfl
theorem ivs_len (l : List Nat) : (ivs l).length = l.length := List.length_map ..
theorem ivs_set (l : List Nat) (i v : Nat) : (ivs l).set i (iv v) = ivs (l.set i v) := by
  unfold ivs
  rw [List.map_set]
theorem ivs_append (l m : List Nat) : ivs l ++ ivs m = ivs (l ++ m) := by
  unfold ivs
  rw [List.map_append]
theorem atI_iv {xs : List V} {k : Nat} {v : V} (h : xs[k]? = some v) : atI xs (k : Int) = some v := atI_nat h
theorem ixN_iv {n k : Nat} (h : k < n) : ixN n (k : Int) = some k := by
  unfold ixN
  rw [if_pos (by omega), if_pos (by omega)]
  rfl
def lnF (l : Km361.Line) : List (Str × V) := [("one", iv l.a), ("other", iv l.b), ("most", iv l.most)]
def LineAt (CL : Addr) (H : Hp) (p : Addr) (l : Km361.Line) : Prop := ∃ dx, H p = some (.ins CL dx (lnF l))
abbrev Cell := Option (Addr × Km361.Line)
def cellV : Cell → V
  | none => .non
  | some q => .ref q.1
/-- the net at x, its lines in the list at l -/
structure NetAt (CN CL : Addr) (H : Hp) (x l : Addr) (n : Km361.Net) : Prop where
  ex : ∃ (dx : Addr) (cs : List Cell), H x = some (.ins CN dx [("lines", .ref l)]) ∧ H l = some (.lst (cs.map cellV)) ∧ n.lines = cs.map (Option.map Prod.snd) ∧
    (∀ p ln, some (p, ln) ∈ cs → LineAt CL H p ln) ∧ ∀ (i j : Nat) p a b, cs[i]? = some (some (p, a)) → cs[j]? = some (some (p, b)) → i = j
theorem NetAt.same {CN CL : Addr} {H H' : Hp} {x l : Addr} {n : Km361.Net} (h : NetAt CN CL H x l n) (s : Same H H') : NetAt CN CL H' x l n := by
  obtain ⟨dx, cs, h1, h2, h3, h4, h5⟩ := h.ex
  exact ⟨dx, cs, s _ _ h1, s _ _ h2, h3, fun p ln m => let ⟨d, e⟩ := h4 p ln m; ⟨d, s _ _ e⟩, h5⟩
/-- the tree at x, its two lists at la and lm -/
def TreeAt (CT : Addr) (H : Hp) (x la lm : Addr) (t : Km361.Tree) : Prop :=
  ∃ dx, H x = some (.ins CT dx [("below", .ref la), ("weights", .ref lm)]) ∧ H la = some (.lst (ivs t.above)) ∧ H lm = some (.lst (ivs t.much)) ∧ la ≠ lm
theorem TreeAt.same {CT : Addr} {H H' : Hp} {x la lm : Addr} {t : Km361.Tree} (h : TreeAt CT H x la lm t) (s : Same H H') : TreeAt CT H' x la lm t := by
  obtain ⟨dx, h1, h2, h3, h4⟩ := h
  exact ⟨dx, s _ _ h1, s _ _ h2, s _ _ h3, h4⟩
/-- the edges of all sides -/
def edgesV (f : Nat → Nat) : List V := ivs ((List.range 256).map f)
theorem edgesV_at (f : Nat → Nat) {s : Nat} (h : s < 256) : (edgesV f)[s]? = some (iv (f s)) := by
  unfold edgesV ivs
  rw [List.getElem?_map, List.getElem?_map, List.getElem?_range h]
  rfl
theorem edgesV_len (f : Nat → Nat) : (edgesV f).length = 256 := by
  unfold edgesV
  rw [ivs_len, List.length_map, List.length_range]
theorem lk_here {k : Str} {v : V} {r : List (Str × V)} : List.lookup k ((k, v) :: r) = some v := by
  have e : (k == k) = true := beq_self_eq_true k
  simp only [List.lookup, e]
theorem lk_past {k g : Str} {v : V} {r : List (Str × V)} (h : (k == g) = false) : List.lookup k ((g, v) :: r) = List.lookup k r := by
  simp only [List.lookup, h]
theorem put_here {f : Str} {v x : V} {r : List (Str × V)} : putF f v ((f, x) :: r) = (f, v) :: r := if_pos rfl
theorem put_past {f g : Str} {v x : V} {r : List (Str × V)} (h : ¬ g = f) : putF f v ((g, x) :: r) = (g, x) :: putF f v r := if_neg h
theorem lnF_one (l : Km361.Line) : (lnF l).lookup ("one" : Str) = some (iv l.a) := lk_here
theorem lnF_other (l : Km361.Line) : (lnF l).lookup ("other" : Str) = some (iv l.b) := (lk_past (by decide +kernel)).trans lk_here
theorem lnF_most (l : Km361.Line) : (lnF l).lookup ("most" : Str) = some (iv l.most) := (lk_past (by decide +kernel)).trans ((lk_past (by decide +kernel)).trans lk_here)
theorem lnF_put (l : Km361.Line) (m : Nat) : putF "most" (iv m) (lnF l) = lnF ⟨l.a, l.b, m⟩ :=
  (put_past (by decide +kernel)).trans (congrArg _ ((put_past (by decide +kernel)).trans (congrArg _ put_here)))
theorem lnF_new (a b m : Nat) : putF "most" (iv m) (putF "other" (iv b) (putF "one" (iv a) [])) = lnF ⟨a, b, m⟩ := by
  have e1 : putF "other" (iv b) (putF "one" (iv a) []) = ([("one", iv a), ("other", iv b)] : List (Str × V)) := put_past (f := "other") (g := "one") (by decide +kernel)
  rw [e1]
  exact (put_past (f := "most") (g := "one") (by decide +kernel)).trans (congrArg _ (put_past (f := "most") (g := "other") (by decide +kernel)))
theorem tF_below (la lm : Addr) : List.lookup ("below" : Str) ([("below", V.ref la), ("weights", V.ref lm)] : List (Str × V)) = some (.ref la) := lk_here
theorem tF_weights (la lm : Addr) : List.lookup ("weights" : Str) ([("below", V.ref la), ("weights", V.ref lm)] : List (Str × V)) = some (.ref lm) := (lk_past (by decide +kernel)).trans lk_here
theorem nF_lines (l : Addr) : List.lookup ("lines" : Str) ([("lines", V.ref l)] : List (Str × V)) = some (.ref l) := lk_here
theorem tF_new (la lm : Addr) : putF "weights" (.ref lm) (putF "below" (.ref la) []) = ([("below", V.ref la), ("weights", V.ref lm)] : List (Str × V)) := put_past (f := "weights") (g := "below") (by decide +kernel)

/-! ### what the top has written -/
structure Txt (K : PySem.W.Frag) (mg : Str → Option Value) (CN CL CT : Addr) : Prop where
  cN : Cls K CN
  cL : Cls K CL
  cT : Cls K CT
  nLines : NoAttr K CN "lines"
  nOne : NoAttr K CL "one"
  nOther : NoAttr K CL "other"
  nMost : NoAttr K CL "most"
  nBelow : NoAttr K CT "below"
  nWeights : NoAttr K CT "weights"
  gN : mg "Net" = some (.ref CN)
  gL : mg "Line" = some (.ref CL)
  gT : mg "Tree" = some (.ref CT)
  places : ∃ t, mg "PLACES" = some (.int 8 t)
  sides : ∃ t, mg "SIDES" = some (.int 256 t)
  lines : ∃ t, mg "MOST_LINES" = some (.int 24 t)
  much : ∃ t, mg "MOST_MUCH" = some (.int 1000 t)
  start : ∃ t, mg "START" = some (.int 0 t)
  range : mg "range" = none
  enumerate : mg "enumerate" = none
  len : mg "len" = none
  list : mg "list" = none
  min : mg "min" = none
section
variable {X : Cx}
/-- a number of the module -/
theorem pe_num {x : Str} {i : Int} {pos : Pos} (hg : Gl X x) (hm : ∃ t, X.mg x = some (.int i t)) (hd : (x == ("__debug__" : Str)) = false := by decide) : PE X (.Name x pos) (tC (.int i)) := by
  obtain ⟨t, hm⟩ := hm
  exact pe_glob hg hm ⟨t, rfl⟩ hd
end

/-! ### a def of the module: where it stands, what it keeps -/
structure FunAt (K : PySem.W.Frag) (mg : Str → Option Value) (x : Str) (st : Stmt) (ps : List Str) : Prop where
  ex : ∃ (f : Addr) (fd : FuncData), Fun K x x st f fd ∧ mg x = some (.ref f) ∧ Binds K fd ps []
structure Def (P : Program) (w : World) (K : PySem.W.Frag) (mg : Str → Option Value) (base : Heap) (x : Str) (k : Nat) (ps : List Str) (sp : Sp) : Prop where
  ex : ∃ (f : Addr) (fd : FuncData), FnOk P w K mg base CX0 k f fd ps sp ∧ mg x = some (.ref f) ∧ PySem.W.keepIn K (.ref f) = true ∧ Binds K fd ps []
section
variable {P : Program} {w : World} {K : PySem.W.Frag} {mg : Str → Option Value} {base : Heap}
theorem def_mk {x : Str} {st : Stmt} {N ps : List Str} {k : Nat} {sp : Sp} (F : FunAt K mg x st ps) (S : FnScope N ps (defScope st)) (len : ∀ vs H Q E, sp vs H Q E → vs.length = ps.length)
    (hbody : ∀ (f : Addr) (cdv : Value) (A : Around) (outer : List Env) (s : Shared) (H : Hp) (vs : List V) (Q : VK) (E : XK), Room k (A.deeper (envOfC x (defScope st) s.heap.objs.size f cdv)) → sp vs H Q E →
      ∃ t, PSs (cxOf CX0 P w K mg base N x (defScope st) f cdv A outer s H E).nox (defBody st) t ∧ t { nx := fun _ H' => Q .non H', rt := Q } (start N vs) H) : Def P w K mg base x (k + 1) ps sp := by
  obtain ⟨f, fd, F, m, b⟩ := F.ex
  exact ⟨f, fd, F.ok S len (fun cdv A outer s H vs Q E hr h => hbody f cdv A outer s H vs Q E hr h), m, F.kp, b⟩
end
section
variable {X : Cx}
theorem pe_def {k : Nat} {ps : List Str} {sp : Sp} {x : Str} {p pos : Pos} {e : Expr} {es : List Expr} {t : TA} (D : Def X.prog X.w X.K X.mg X.base x k ps sp) (hr : Room k X.A) (hg : Gl X x) (ha : PA X (e :: es) t)
    (hdb : (x == ("__debug__" : Str)) = false := by decide) (he : starEach (e :: es) X.env = (false, eval e X.env) :: starEach es X.env := by rfl) (hpl : (backTo pos (starEach es X.env)).any (·.1) = false := by rfl) :
    PE X (.Call (.Name x p) (e :: es) [] pos) (tCall sp [] E0 t) := by
  obtain ⟨f, fd, F, m, kp, b⟩ := D.ex
  exact pe_call F hr hg m kp b .nil pass0 ha hdb he hpl
end

/-! ### the promises -/
def spPlace : Sp := fun vs H Q _ => ∃ s k : Nat, vs = [iv s, iv k] ∧ Q (.bl (s.testBit k)) H
def spOver (CL : Addr) : Sp := fun vs H Q _ => ∃ (p : Addr) (ln : Km361.Line) (s : Nat), vs = [.ref p, iv s] ∧ LineAt CL H p ln ∧ Q (.bl (s.testBit ln.a != s.testBit ln.b)) H
def spEdge (CN CL : Addr) : Sp := fun vs H Q _ => ∃ (x l : Addr) (n : Km361.Net) (s : Nat), vs = [.ref x, iv s] ∧ NetAt CN CL H x l n ∧ Q (iv (n.edge s)) H
def spEdges (CN CL : Addr) : Sp := fun vs H Q _ => ∃ (x l : Addr) (n : Km361.Net), vs = [.ref x] ∧ NetAt CN CL H x l n ∧ ∀ p, H p = none → Q (.ref p) (upd H p (.lst (edgesV n.edge)))
def spLeast : Sp := fun vs H Q _ => ∃ (pe ps : Addr) (f : Nat → Nat) (b : Nat) (r : List Nat), vs = [.ref pe, .ref ps] ∧ H pe = some (.lst (edgesV f)) ∧ H ps = some (.lst (ivs (b :: r))) ∧ (∀ s ∈ b :: r, s < 256) ∧ Q (iv (least f b (b :: r))) H
def spCut : Sp := fun vs H Q _ => ∃ (pe : Addr) (f : Nat → Nat) (a b : Nat), vs = [.ref pe, iv a, iv b] ∧ H pe = some (.lst (edgesV f)) ∧ a < 8 ∧ b < 8 ∧ a ≠ b ∧ ∀ H', Same H H' → Q (iv (cutF f a b)) H'
def spWeak : Sp := fun vs H Q _ => ∃ (pe : Addr) (f : Nat → Nat), vs = [.ref pe] ∧ H pe = some (.lst (edgesV f)) ∧ ∀ H', Same H H' → Q (iv (weakF f)) H'
def spTwo : Sp := fun vs H Q _ => ∃ a b : Nat, vs = [iv a, iv b] ∧ Q (.bl (Km361.okPair a b)) H
def spLine0 (CL : Addr) : Sp := fun vs H Q _ => ∃ (p dx : Addr) (a b m : Nat), vs = [.ref p, iv a, iv b, iv m] ∧ H p = some (.ins CL dx []) ∧ Q .non (upd H p (.ins CL dx (lnF ⟨a, b, m⟩)))
def spNet0 (CN : Addr) : Sp := fun vs H Q _ => ∃ (p dx : Addr), vs = [.ref p] ∧ H p = some (.ins CN dx []) ∧
  ∀ H' l, H' p = some (.ins CN dx [("lines", .ref l)]) → H' l = some (.lst (List.replicate 24 .non)) → H l = none → (∀ b o, H b = some o → b ≠ p → H' b = some o) → Q .non H'
def spTree0 (CT : Addr) : Sp := fun vs H Q _ => ∃ (p dx : Addr), vs = [.ref p] ∧ H p = some (.ins CT dx []) ∧
  ∀ H' la lm, TreeAt CT H' p la lm Km361.tree0 → H la = none → H lm = none → (∀ b o, H b = some o → b ≠ p → H' b = some o) → Q .non H'
/-- the least number that is free, or -1 -/
def freeI (n : Km361.Net) : Int := match n.free with
  | none => -1
  | some k => (k : Int)
def spFree (CN CL : Addr) : Sp := fun vs H Q _ => ∃ (x l : Addr) (n : Km361.Net), vs = [.ref x] ∧ NetAt CN CL H x l n ∧ NetOk n ∧ ∀ H', Same H H' → Q (.int (freeI n)) H'
def spHas (CN CL : Addr) : Sp := fun vs H Q _ => ∃ (x l : Addr) (n : Km361.Net) (k : Nat), vs = [.ref x, iv k] ∧ NetAt CN CL H x l n ∧ NetOk n ∧ Q (.bl (n.line k).isSome) H
def spHang (CT : Addr) : Sp := fun vs H Q _ => ∃ (x la lm pe : Addr) (f : Nat → Nat) (t : Km361.Tree) (s : Nat), vs = [.ref x, .ref pe, iv s] ∧ TreeAt CT H x la lm t ∧ TreeOk t ∧ H pe = some (.lst (edgesV f)) ∧ 0 < s ∧ s < 8 ∧
  ∀ H', TreeAt CT H' x la lm (growF f t s) → (∀ b o, H b = some o → b ≠ la → b ≠ lm → H' b = some o) → Q .non H'
def spTree (CT : Addr) : Sp := fun vs H Q _ => ∃ (pe : Addr) (f : Nat → Nat), vs = [.ref pe] ∧ H pe = some (.lst (edgesV f)) ∧ (∀ s, f s ≤ 24000) ∧
  ∀ H' x la lm, TreeAt CT H' x la lm (treeF f 7) → Same H H' → Q (.ref x) H'
def spLB (CT : Addr) : Sp := fun vs H Q _ => ∃ (x la lm : Addr) (t : Km361.Tree) (a b : Nat), vs = [.ref x, iv a, iv b] ∧ TreeAt CT H x la lm t ∧ TreeOk t ∧ a < 8 ∧ b < 8 ∧ a ≠ b ∧ ∀ H', Same H H' → Q (iv (t.least a b)) H'
/-- what a deed leaves of the rest: all that is no instance, but the net's own list -/
def Keeps (l : Addr) (H H' : Hp) : Prop := ∀ b o, H b = some o → b ≠ l → (∀ C dx fs, o ≠ .ins C dx fs) → H' b = some o
theorem Keeps.of_same {l : Addr} {H H' : Hp} (s : Same H H') : Keeps l H H' := fun b o e _ _ => s b o e
def spDeed (CN CL : Addr) (p : Int) : Sp := fun vs H Q _ => ∃ (x l q : Addr) (n : Km361.Net) (args : List Nat) (c : Km361.Call), vs = [.ref x, .ref q] ∧ NetAt CN CL H x l n ∧ NetOk n ∧ H q = some (.lst (ivs args)) ∧ callN p args = some c ∧
  ∀ H' y, H' y = some (.lst ((said (Km361.act n c).2).map V.int)) → H y = none → y ≠ l → NetAt CN CL H' x l (Km361.act n c).1 → Keeps l H H' → Q (.ref y) H'
end Tc

namespace Tc
open PySem PySem.Spec PyProof.Rows L2

/-! ### has_place -/
theorem bit_eq (s k : Nat) : decide (V.int (Builtin.bitAnd ((s : Int) / 2 ^ ((k : Nat) : Int).toNat) 1) = V.int 1) = s.testBit k := by
  have e : ((s : Int) / 2 ^ ((k : Nat) : Int).toNat) % 2 = ((s / 2 ^ k % 2 : Nat) : Int) := by
    rw [Int.toNat_natCast]
    norm_cast
  rw [bitAnd_m1, e, Nat.testBit_eq_decide_div_mod_eq]
  apply decide_eq_decide.mpr
  constructor
  · intro h
    have := V.int.inj h
    omega
  · intro h
    rw [h]
    rfl
section
variable {P : Program} {w : World} {K : PySem.W.Frag} {mg : Str → Option Value} {base : Heap} {CN CL CT : Addr}
theorem scPlace : FnScope ["side", "place"] ["side", "place"] (defScope sPlace) := ⟨rfl, rfl, rfl, by decide +kernel, rfl, by decide +kernel, by decide +kernel⟩
theorem ok_place (F : FunAt K mg "has_place" sPlace ["side", "place"]) : Def P w K mg base "has_place" 1 ["side", "place"] spPlace := by
  refine def_mk F scPlace (fun vs H Q E h => ?_) (fun f cdv A outer s H vs Q E hr h => ?_)
  · obtain ⟨s, k, rfl, _⟩ := h
    rfl
  · refine ⟨_, pss_one (ps_ret (pe_cmpR op_eq (pe_op op_and (pe_op op_shr (pv 0) (pv 1)) pe_int) pe_int (nomark _))), ?_⟩
    obtain ⟨s, k, rfl, q⟩ := h
    refine ⟨_, rfl, _, rfl, _, _, rfl, rfl, Int.natCast_nonneg _, _, _, rfl, rfl, rfl, ?_⟩
    rw [bit_eq]
    exact q

/-! ### small words -/
theorem if_true_of {c : Bool} {A B : Prop} (hc : c = true) (h : A) : if c = true then A else B := by
  rw [if_pos hc]
  exact h
theorem if_false_of {c : Bool} {A B : Prop} (hc : c = false) (h : B) : if c = true then A else B := by
  rw [hc, if_neg Bool.false_ne_true]
  exact h
theorem same_upd {H : Hp} {p : Addr} {o : HO} (h : H p = none) : Same H (upd H p o) := fun b u e => by
  rw [upd_ne (ne_of_none e h)]
  exact e
theorem take_more {α : Type} : ∀ {l : List α} {i : Nat} {x : α}, l[i]? = some x → l.take (i + 1) = l.take i ++ [x]
  | [], i, x, h => by simp at h
  | a :: l, 0, x, h => by
    have e : a = x := Option.some.inj h
    subst e
    rfl
  | a :: l, i + 1, x, h => by
    have ih := take_more (l := l) (i := i) (x := x) h
    show a :: l.take (i + 1) = a :: l.take i ++ [x]
    rw [ih]
    rfl
theorem map_at {α β : Type} {g : α → β} {l : List α} {i : Nat} {y : β} (h : (l.map g)[i]? = some y) : ∃ x, l[i]? = some x ∧ y = g x := by
  rw [List.getElem?_map] at h
  cases e : l[i]? with
  | none => rw [e] at h; cases h
  | some x => rw [e] at h; exact ⟨x, rfl, (Option.some.inj h).symm⟩
theorem small256 {n : Nat} (h : n ≤ 256) : n < sizeLine := Nat.lt_of_le_of_lt h (by decide)

/-! ### is_over -/
theorem scOver : FnScope ["line", "side"] ["line", "side"] (defScope sOver) := ⟨rfl, rfl, rfl, by decide +kernel, rfl, by decide +kernel, by decide +kernel⟩
theorem ok_over (T : Txt K mg CN CL CT) (F : FunAt K mg "is_over" sOver ["line", "side"]) (D : Def P w K mg base "has_place" 1 ["side", "place"] spPlace) : Def P w K mg base "is_over" 2 ["line", "side"] (spOver CL) := by
  refine def_mk F scOver (fun vs H Q E h => ?_) (fun f cdv A outer s H vs Q E hr h => ?_)
  · obtain ⟨p, ln, s, rfl, _⟩ := h
    rfl
  · refine ⟨_, pss_one (ps_ret (pe_cmpR op_ne (pe_def D hr rfl (pa_cons (pv 1) (pa_cons (pe_fld (pv 0) rfl) pa_nil))) (pe_def D hr rfl (pa_cons (pv 1) (pa_cons (pe_fld (pv 0) rfl) pa_nil))) (nomark _))), ?_⟩
    obtain ⟨p, ln, s, rfl, ⟨dx, hp⟩, q⟩ := h
    refine ⟨_, rfl, _, rfl, p, CL, dx, _, _, rfl, hp, T.cL, T.nOne, lnF_one ln, s, ln.a, rfl, ?_⟩
    refine ⟨_, rfl, _, rfl, p, CL, dx, _, _, rfl, hp, T.cL, T.nOther, lnF_other ln, s, ln.b, rfl, rfl, ?_⟩
    have e : (!decide (V.bl (s.testBit ln.a) = V.bl (s.testBit ln.b))) = (s.testBit ln.a != s.testBit ln.b) := by
      cases s.testBit ln.a <;> cases s.testBit ln.b <;> rfl
    rw [e]
    exact q

/-! ### edge_of -/
theorem scEdge : FnScope ["net", "side", "much", "line"] ["net", "side"] (defScope sEdge) := ⟨rfl, rfl, rfl, by decide +kernel, rfl, by decide +kernel, by decide +kernel⟩
theorem ok_edge (T : Txt K mg CN CL CT) (F : FunAt K mg "edge_of" sEdge ["net", "side"]) (D : Def P w K mg base "is_over" 2 ["line", "side"] (spOver CL)) : Def P w K mg base "edge_of" 3 ["net", "side"] (spEdge CN CL) := by
  refine def_mk F scEdge (fun vs H Q E h => ?_) (fun f cdv A outer s H vs Q E hr h => ?_)
  · obtain ⟨x, l, n, s, rfl, _⟩ := h
    rfl
  · refine ⟨_, pss_cons (ps_set (i := 2) scEdge.nd rfl (Or.inl rfl) pe_int)
      (pss_cons (ps_for PassesOwn.never rfl (pi_list (pe_fld (pv 0) rfl)) (pg_name (i := 3) scEdge.nd rfl (Or.inl rfl))
        (pss_one (ps_if (PW.pt (pw_and (pt_cmp (pc_notN (pv 3))) (pw_and1 (pt_val (pe_def D hr rfl (pa_cons (pv 3) (pa_cons (pv 1) pa_nil)))))))
          (pss_one (ps_set (i := 2) scEdge.nd rfl (Or.inl rfl) (pe_op op_add (pv 2) (pe_fld (pv 3) rfl)))) pss_nil)))
      (pss_one (ps_ret (pv 2)))), ?_⟩
    obtain ⟨x, l, n, s, rfl, hN, q⟩ := h
    obtain ⟨dx, cs, h1, h2, h3, h4, h5⟩ := hN.ex
    refine ⟨_, rfl, x, CN, dx, _, _, rfl, h1, T.cN, T.nLines, nF_lines l, l, rfl, ⟨_, SqL.of h2⟩,
      for_list (K := K) (a := l) (xs := cs.map cellV) (fun i σ H' => H' = H ∧ ∃ v : Option V, σ = [some (.ref x), some (iv s), some (iv (edgeL s (n.lines.take i))), v])
        ⟨rfl, none, rfl⟩ (fun i σ H' _ ⟨e, _⟩ => e ▸ SqL.of h2) ?_ ?_⟩
    · rintro i y σ H' hi ⟨rfl, v, rfl⟩
      obtain ⟨c, hc, rfl⟩ := map_at hi
      have hn : n.lines[i]? = some (c.map Prod.snd) := by
        rw [h3, List.getElem?_map, hc]
        rfl
      have step : edgeL s (n.lines.take (i + 1)) = edgeL s (n.lines.take i) + overO s (c.map Prod.snd) := by
        rw [take_more hn, edgeL_snoc]
      cases c with
      | none =>
        refine ⟨_, rfl, _, rfl, if_false_of rfl (if_false_of rfl ⟨rfl, some .non, ?_⟩)⟩
        rw [step]
        rfl
      | some pl =>
        obtain ⟨p, ln⟩ := pl
        obtain ⟨dl, hl⟩ := h4 p ln (List.mem_of_getElem? hc)
        refine ⟨_, rfl, _, rfl, if_true_of rfl ⟨_, rfl, _, rfl, p, ln, s, rfl, ⟨dl, hl⟩, _, rfl, ?_⟩⟩
        have eo : overO s (some ln) = if s.testBit ln.a == s.testBit ln.b then 0 else ln.most := rfl
        cases z : s.testBit ln.a == s.testBit ln.b with
        | true =>
          refine if_false_of ?_ ⟨rfl, some (.ref p), ?_⟩
          · rw [bne, z]
            rfl
          · rw [step]
            show _ = [_, _, some (iv (edgeL s (n.lines.take i) + overO s (some ln))), _]
            rw [eo, z]
            rfl
        | false =>
          refine if_true_of ?_ ⟨_, rfl, _, rfl, p, CL, dl, _, _, rfl, hl, T.cL, T.nMost, lnF_most ln, _, _, rfl, rfl, rfl, some (.ref p), ?_⟩
          · rw [bne, z]
            rfl
          · rw [step]
            show _ = [_, _, some (iv (edgeL s (n.lines.take i) + overO s (some ln))), _]
            rw [eo, z]
            rfl
    · rintro σ H' ⟨rfl, v, rfl⟩
      refine ⟨_, rfl, ?_⟩
      rw [List.length_map]
      have e : n.lines.take cs.length = n.lines := by
        rw [h3, ← List.length_map (f := Option.map Prod.snd) (as := cs), List.take_length]
      rw [e, ← edge_eq]
      exact q

/-! ### edges_of -/
theorem scEdges : FnScope ["net", "side"] ["net"] (defScope sEdges) := ⟨rfl, rfl, rfl, by decide +kernel, rfl, by decide +kernel, by decide +kernel⟩
theorem ok_edges (T : Txt K mg CN CL CT) (F : FunAt K mg "edges_of" sEdges ["net"]) (D : Def P w K mg base "edge_of" 3 ["net", "side"] (spEdge CN CL)) : Def P w K mg base "edges_of" 4 ["net"] (spEdges CN CL) := by
  refine def_mk F scEdges (fun vs H Q E h => ?_) (fun f cdv A outer s H vs Q E hr h => ?_)
  · obtain ⟨x, l, n, rfl, _⟩ := h
    rfl
  · refine ⟨_, pss_one (ps_ret (pe_lc (own := [("side", 1)]) (g := gName 1) (tt := tYes) rfl scEdges.nd (pi_range1 rfl T.range (pa_cons (pe_num rfl T.sides) pa_nil))
      (blkOk_by (N := ["net", "side"]) (sc := defScope sEdges) (by decide +kernel)) (fun _ _ _ _ _ => pg_name (i := 1) scEdges.nd rfl (Or.inl rfl)) (fun _ _ _ _ _ => pts_nil)
      (fun _ _ _ _ _ => pe_def D hr rfl (pa_cons (pv 0) (pa_cons (pv 1) pa_nil))))), ?_⟩
    obtain ⟨x, l, n, rfl, hN, q⟩ := h
    refine ⟨256, rfl, by decide, by decide, fun L hL => lc_range (lo := 0) (n := 256) (fun i H' => H' = upd H L (.lst (ivs ((List.range i).map n.edge)))) rfl ?_ ?_⟩
    · rintro i H' hi rfl
      refine ⟨rfl, ?_⟩
      have e0 : V.int (0 + ((i : Nat) : Int)) = iv i := congrArg V.int (Int.zero_add _)
      refine ⟨_, rfl, _, rfl, x, l, n, i, congrArg (fun v => [V.ref x, v]) e0, hN.same (same_upd hL), _, upd_same, ?_, ?_⟩
      · rw [ivs_len, List.length_map, List.length_range]
        exact small256 (by omega)
      · rw [upd_upd, List.range_succ, List.map_append, ← ivs_append]
        rfl
    · rintro H' rfl
      exact q L hL

/-! ### least_side -/
theorem scLeast : FnScope ["edges", "sides", "best", "side"] ["edges", "sides"] (defScope sLeast) := ⟨rfl, rfl, rfl, by decide +kernel, rfl, by decide +kernel, by decide +kernel⟩
theorem ok_least (F : FunAt K mg "least_side" sLeast ["edges", "sides"]) : Def P w K mg base "least_side" 1 ["edges", "sides"] spLeast := by
  refine def_mk F scLeast (fun vs H Q E h => ?_) (fun f cdv A outer s H vs Q E hr h => ?_)
  · obtain ⟨pe, ps, f, b, r, rfl, _⟩ := h
    rfl
  · refine ⟨_, pss_cons (ps_set (i := 2) scLeast.nd rfl (Or.inl rfl) (pe_ix ix_list (pv 1) pe_int (fun _ _ => rfl)))
      (pss_cons (ps_for PassesOwn.never rfl (pi_list (pv 1)) (pg_name (i := 3) scLeast.nd rfl (Or.inl rfl))
        (pss_one (ps_if (pt_cmpR op_lt (pe_ix ix_list (pv 0) (pv 3) (fun _ _ => rfl)) (pe_ix ix_list (pv 0) (pv 2) (fun _ _ => rfl)) (nomark _))
          (pss_one (ps_set (i := 2) scLeast.nd rfl (Or.inl rfl) (pv 3))) pss_nil)))
      (pss_one (ps_ret (pv 2)))), ?_⟩
    obtain ⟨pe, ps, f, b, r, rfl, he, hs, hlt, q⟩ := h
    refine ⟨_, rfl, ps, _, _, _, rfl, rfl, SqL.of hs, atI_nat (j := 0) (v := iv b) rfl, _, rfl, ps, rfl, ⟨_, SqL.of hs⟩,
      for_list (K := K) (a := ps) (xs := ivs (b :: r)) (fun i σ H' => H' = H ∧ ∃ v : Option V, σ = [some (.ref pe), some (.ref ps), some (iv (least f b ((b :: r).take i))), v])
        ⟨rfl, none, rfl⟩ (fun i σ H' _ ⟨e, _⟩ => e ▸ SqL.of hs) ?_ ?_⟩
    · rintro i y σ H' hi ⟨rfl, v, rfl⟩
      obtain ⟨s, hc, rfl⟩ := map_at hi
      have hs256 : s < 256 := hlt s (List.mem_of_getElem? hc)
      have hb256 : least f b ((b :: r).take i) < 256 := by
        rcases least_mem f ((b :: r).take i) b with e | m
        · rw [e]; exact hlt b (List.mem_cons_self ..)
        · exact hlt _ (List.mem_of_mem_take m)
      have step : least f b ((b :: r).take (i + 1)) = if f s < f (least f b ((b :: r).take i)) then s else least f b ((b :: r).take i) := by
        rw [take_more hc, least_snoc]
      refine ⟨_, rfl, _, rfl, pe, _, _, _, rfl, rfl, SqL.of he, atI_iv (edgesV_at f hs256), _, rfl, _, rfl, pe, _, _, _, rfl, rfl, SqL.of he, atI_iv (edgesV_at f hb256), _, _, rfl, rfl, _, rfl, ?_⟩
      by_cases c : f s < f (least f b ((b :: r).take i))
      · refine if_true_of (decide_eq_true (Int.ofNat_lt.mpr c)) ⟨_, rfl, rfl, some (iv s), ?_⟩
        rw [step, if_pos c]
        rfl
      · refine if_false_of (decide_eq_false fun z => c (Int.ofNat_lt.mp z)) ⟨rfl, some (iv s), ?_⟩
        rw [step, if_neg c]
        rfl
    · rintro σ H' ⟨rfl, v, rfl⟩
      refine ⟨_, rfl, ?_⟩
      rw [ivs_len, List.take_length]
      exact q

/-! ### cut_of -/
theorem scCut : FnScope ["edges", "one", "other", "some", "side"] ["edges", "one", "other"] (defScope sCut) := ⟨rfl, rfl, rfl, by decide +kernel, rfl, by decide +kernel, by decide +kernel⟩
theorem ok_cut (T : Txt K mg CN CL CT) (F : FunAt K mg "cut_of" sCut ["edges", "one", "other"]) (D : Def P w K mg base "has_place" 1 ["side", "place"] spPlace) (DL : Def P w K mg base "least_side" 1 ["edges", "sides"] spLeast) :
    Def P w K mg base "cut_of" 2 ["edges", "one", "other"] spCut := by
  refine def_mk F scCut (fun vs H Q E h => ?_) (fun f cdv A outer s H vs Q E hr h => ?_)
  · obtain ⟨pe, f, a, b, rfl, _⟩ := h
    rfl
  · refine ⟨_, pss_cons (ps_setLc (i := 3) (own := [("side", 4)]) (g := gName 4) (by rfl) scCut.nd rfl rfl (sw_true rfl rfl rfl (by decide +kernel)) (pi_range1 rfl T.range (pa_cons (pe_num rfl T.sides) pa_nil))
        (blkOk_by (N := ["edges", "one", "other", "some", "side"]) (sc := defScope sCut) (by decide +kernel)) (fun _ _ _ _ _ => pg_name (i := 4) scCut.nd rfl (Or.inl rfl))
        (fun _ _ _ _ _ => pts_one (PW.pt (pw_and (pt_val (pe_def D hr rfl (pa_cons (pv 4) (pa_cons (pv 1) pa_nil)))) (pw_and1 (pt_not (pt_val (pe_def D hr rfl (pa_cons (pv 4) (pa_cons (pv 2) pa_nil)))))))))
        (fun _ _ _ _ _ => pv 4))
      (pss_one (ps_ret (pe_def DL hr rfl (pa_cons (pv 0) (pa_cons (pv 3) pa_nil))))), ?_⟩
    obtain ⟨pe, f, a, b, rfl, he, ha, hb, hab, q⟩ := h
    refine ⟨256, rfl, by decide, by decide, fun L hL => lc_range (lo := 0) (n := 256) (fun i H' => H' = upd H L (.lst (ivs ((List.range i).filter (parts a b))))) rfl ?_ ?_⟩
    · rintro i H' hi rfl
      have e0 : V.int (0 + ((i : Nat) : Int)) = iv i := congrArg V.int (Int.zero_add _)
      have es : (List.range (i + 1)).filter (parts a b) = (List.range i).filter (parts a b) ++ if parts a b i = true then [i] else [] := by
        rw [List.range_succ, List.filter_append]
        congr 1
        rw [List.filter_cons, List.filter_nil]
      refine ⟨rfl, _, rfl, _, rfl, i, a, congrArg (fun v => [v, iv a]) e0, _, rfl, ?_⟩
      cases ca : i.testBit a with
      | false =>
        refine if_false_of rfl (if_false_of rfl ?_)
        rw [es, show parts a b i = false by unfold parts; rw [ca]; rfl]
        rw [if_neg Bool.false_ne_true, List.append_nil]
      | true =>
        refine if_true_of rfl ⟨_, rfl, _, rfl, i, b, congrArg (fun v => [v, iv b]) e0, _, rfl, ?_⟩
        cases cb : i.testBit b with
        | true =>
          refine if_false_of rfl ?_
          rw [es, show parts a b i = false by unfold parts; rw [ca, cb]; rfl]
          rw [if_neg Bool.false_ne_true, List.append_nil]
        | false =>
          refine if_true_of rfl ⟨_, rfl, _, upd_same, ?_, ?_⟩
          · rw [ivs_len]
            have := List.length_filter_le (parts a b) (List.range i)
            rw [List.length_range] at this
            exact small256 (by omega)
          · rw [upd_upd, es, show parts a b i = true by unfold parts; rw [ca, cb]; rfl]
            rw [if_pos rfl, ← ivs_append, e0]
            rfl
    · rintro H' rfl
      obtain ⟨r, er⟩ := sides_cons ha hb hab
      refine ⟨_, rfl, _, rfl, pe, L, f, 2 ^ a, r, rfl, same_upd hL pe _ he, ?_, fun s m => ?_, ?_⟩
      · rw [← er]
        exact upd_same
      · rw [← er] at m
        exact sides_lt m
      · rw [← er]
        exact q _ (same_upd hL)

/-! ### weakest_side -/
theorem scWeak : FnScope ["edges"] ["edges"] (defScope sWeak) := ⟨rfl, rfl, rfl, by decide +kernel, rfl, by decide +kernel, by decide +kernel⟩
theorem rg_inner : rgV 1 255 = ivs inner := by
  unfold rgV ivs inner
  rw [List.map_map]
  apply List.map_congr_left
  intro i _
  show V.int (1 + ((i : Nat) : Int)) = V.int (((i + 1 : Nat)) : Int)
  rw [Int.add_comm]
  rfl
theorem ok_weak (T : Txt K mg CN CL CT) (F : FunAt K mg "weakest_side" sWeak ["edges"]) (DL : Def P w K mg base "least_side" 1 ["edges", "sides"] spLeast) :
    Def P w K mg base "weakest_side" 2 ["edges"] spWeak := by
  refine def_mk F scWeak (fun vs H Q E h => ?_) (fun f cdv A outer s H vs Q E hr h => ?_)
  · obtain ⟨pe, f, rfl, _⟩ := h
    rfl
  · refine ⟨_, pss_one (ps_ret (pe_def DL hr rfl (pa_cons (pv 0) (pa_cons (pe_listRg rfl rfl T.list (prg_2 rfl T.range pe_int (pe_op op_sub (pe_num rfl T.sides) pe_int))) pa_nil)))), ?_⟩
    obtain ⟨pe, f, rfl, he, q⟩ := h
    refine ⟨_, rfl, _, _, rfl, rfl, 1, 255, rfl, rfl, RgOk.of_le (by decide) (by decide) (by decide) (by decide), fun L hL => ?_⟩
    obtain ⟨r, er⟩ := inner_cons
    refine ⟨pe, L, f, 1, r, rfl, same_upd hL pe _ he, ?_, fun s m => ?_, ?_⟩
    · rw [← er, rg_inner]
      exact upd_same
    · rw [← er] at m
      exact inner_lt m
    · rw [← er]
      exact q _ (same_upd hL)
end
end Tc

namespace Tc
open PySem PySem.Spec PyProof.Rows L2

/-! ### lists of unlike length stand apart; classes and their making -/
theorem ne_len {H : Hp} {a b : Addr} {xs ys : List V} (h : H a = some (.lst xs)) (h' : H b = some (.lst ys)) (d : xs.length ≠ ys.length) : a ≠ b :=
  ne_of h h' fun e => d (congrArg List.length (HO.lst.inj e))
/-- a class of the module, made by its __init__ -/
structure MakeAt (P : Program) (w : World) (K : PySem.W.Frag) (mg : Str → Option Value) (base : Heap) (C : Addr) (ps : List Str) (sp : Sp) : Prop where
  ex : ∃ (f : Addr) (fd : FuncData), Mk K C f ∧ FnOk P w K mg base CX0 1 f fd ps sp ∧ Binds K fd ps []
structure InitAt (K : PySem.W.Frag) (C : Addr) (qual : Str) (st : Stmt) (ps : List Str) : Prop where
  ex : ∃ (f : Addr) (fd : FuncData), Mk K C f ∧ Fun K "__init__" qual st f fd ∧ Binds K fd ps []
section
variable {X : Cx}
theorem pe_new0 {C : Addr} {ps : List Str} {sp : Sp} {x : Str} {p pos : Pos} (M : MakeAt X.prog X.w X.K X.mg X.base C ps sp) (hr : Room 2 X.A) (hg : Gl X x) (hm : X.mg x = some (.ref C)) (hdb : (x == ("__debug__" : Str)) = false := by decide) :
    PE X (.Call (.Name x p) [] [] pos) (tMake C sp [] E0 tNil) := by
  obtain ⟨f, fd, M, F, b⟩ := M.ex
  exact pe_make0 M F hr hg hm b .nil pass0 hdb
theorem pe_new {C : Addr} {ps : List Str} {sp : Sp} {x : Str} {p pos : Pos} {e : Expr} {es : List Expr} {t : TA} (M : MakeAt X.prog X.w X.K X.mg X.base C ps sp) (hr : Room 2 X.A) (hg : Gl X x) (hm : X.mg x = some (.ref C)) (ha : PA X (e :: es) t)
    (hdb : (x == ("__debug__" : Str)) = false := by decide) (he : starEach (e :: es) X.env = (false, eval e X.env) :: starEach es X.env := by rfl) (hpl : (backTo pos (starEach es X.env)).any (·.1) = false := by rfl) :
    PE X (.Call (.Name x p) (e :: es) [] pos) (tMake C sp [] E0 t) := by
  obtain ⟨f, fd, M, F, b⟩ := M.ex
  exact pe_make M F hr hg hm b .nil pass0 ha hdb he hpl
end
section
variable {P : Program} {w : World} {K : PySem.W.Frag} {mg : Str → Option Value} {base : Heap} {CN CL CT : Addr}
theorem init_mk {C : Addr} {qual : Str} {st : Stmt} {N ps : List Str} {sp : Sp} (F : InitAt K C qual st ps) (S : FnScope N ps (defScope st)) (len : ∀ vs H Q E, sp vs H Q E → vs.length = ps.length)
    (hbody : ∀ (f : Addr) (cdv : Value) (A : Around) (outer : List Env) (s : Shared) (H : Hp) (vs : List V) (Q : VK) (E : XK), Room 0 (A.deeper (envOfC qual (defScope st) s.heap.objs.size f cdv)) → sp vs H Q E →
      ∃ t, PSs (cxOf CX0 P w K mg base N qual (defScope st) f cdv A outer s H E).nox (defBody st) t ∧ t { nx := fun _ H' => Q .non H', rt := Q } (start N vs) H) : MakeAt P w K mg base C ps sp := by
  obtain ⟨f, fd, M, F, b⟩ := F.ex
  exact ⟨f, fd, M, F.ok S len (fun cdv A outer s H vs Q E hr h => hbody f cdv A outer s H vs Q E hr h), b⟩

/-! ### the classes -/
theorem scLine0 : FnScope ["self", "one", "other", "most"] ["self", "one", "other", "most"] (defScope sLine0) := ⟨rfl, rfl, rfl, by decide +kernel, rfl, by decide +kernel, by decide +kernel⟩
theorem ok_line0 (T : Txt K mg CN CL CT) (F : InitAt K CL "Line.__init__" sLine0 ["self", "one", "other", "most"]) : MakeAt P w K mg base CL ["self", "one", "other", "most"] (spLine0 CL) := by
  refine init_mk F scLine0 (fun vs H Q E h => ?_) (fun f cdv A outer s H vs Q E hr h => ?_)
  · obtain ⟨p, dx, a, b, m, rfl, _⟩ := h
    rfl
  · refine ⟨_, pss_cons (ps_fld (pv 0) (pv 1) rfl) (pss_cons (ps_fld (pv 0) (pv 2) rfl) (pss_one (ps_fld (pv 0) (pv 3) rfl))), ?_⟩
    obtain ⟨p, dx, a, b, m, rfl, hp, q⟩ := h
    refine ⟨_, rfl, _, rfl, p, CL, dx, [], rfl, hp, T.cL, T.nOne, (by show 0 < 1000; decide), ?_⟩
    refine ⟨_, rfl, _, rfl, p, CL, dx, _, rfl, upd_same, T.cL, T.nOther, (by show 1 < 1000; decide), ?_⟩
    refine ⟨_, rfl, _, rfl, p, CL, dx, _, rfl, upd_same, T.cL, T.nMost, (by show 2 < 1000; decide), ?_⟩
    rw [upd_upd, upd_upd, lnF_new]
    exact q
theorem scNet0 : FnScope ["self"] ["self"] (defScope sNet0) := ⟨rfl, rfl, rfl, by decide +kernel, rfl, by decide +kernel, by decide +kernel⟩
theorem ok_net0 (T : Txt K mg CN CL CT) (F : InitAt K CN "Net.__init__" sNet0 ["self"]) : MakeAt P w K mg base CN ["self"] (spNet0 CN) := by
  refine init_mk F scNet0 (fun vs H Q E h => ?_) (fun f cdv A outer s H vs Q E hr h => ?_)
  · obtain ⟨p, dx, rfl, _⟩ := h
    rfl
  · refine ⟨_, pss_one (ps_fld (pv 0) (pe_op op_rep (pe_lst (pa_cons pe_non pa_nil)) (pe_num rfl T.lines)) rfl), ?_⟩
    obtain ⟨p, dx, rfl, hp, q⟩ := h
    refine ⟨(by show 1 ≤ sizeLine; decide), fun l0 h0 => ⟨l0, 24, [.non], rfl, rfl, upd_same, by decide, by decide, by decide, fun l hl => ?_⟩⟩
    have s0 : Same H (upd H l0 (.lst [.non])) := same_upd h0
    have s1 : Same (upd H l0 (.lst [.non])) (upd (upd H l0 (.lst [.non])) l (.lst (List.replicate (24 : Int).toNat [V.non]).flatten)) := same_upd hl
    have hln : l ≠ p := fun e => by
      have z := s0 _ _ hp
      rw [e] at hl
      rw [hl] at z
      cases z
    refine ⟨_, rfl, p, CN, dx, _, rfl, s1 _ _ (s0 _ _ hp), T.cN, T.nLines, (by show 0 < 1000; decide), ?_⟩
    refine q _ l upd_same ?_ (s0.free hl) fun b o e hb => ?_
    · rw [upd_ne hln]
      exact upd_same
    · rw [upd_ne hb]
      exact s1 _ _ (s0 _ _ e)
theorem scTree0 : FnScope ["self"] ["self"] (defScope sTree0) := ⟨rfl, rfl, rfl, by decide +kernel, rfl, by decide +kernel, by decide +kernel⟩
theorem zeros_eq : (List.replicate (8 : Int).toNat [V.int 0]).flatten = ivs Km361.tree0.above := rfl
theorem zeros_eq2 : (List.replicate (8 : Int).toNat [V.int 0]).flatten = ivs Km361.tree0.much := rfl
theorem ok_tree0 (T : Txt K mg CN CL CT) (F : InitAt K CT "Tree.__init__" sTree0 ["self"]) : MakeAt P w K mg base CT ["self"] (spTree0 CT) := by
  refine init_mk F scTree0 (fun vs H Q E h => ?_) (fun f cdv A outer s H vs Q E hr h => ?_)
  · obtain ⟨p, dx, rfl, _⟩ := h
    rfl
  · refine ⟨_, pss_cons (ps_fld (pv 0) (pe_op op_rep (pe_lst (pa_cons pe_int pa_nil)) (pe_num rfl T.places)) rfl) (pss_one (ps_fld (pv 0) (pe_op op_rep (pe_lst (pa_cons pe_int pa_nil)) (pe_num rfl T.places)) rfl)), ?_⟩
    obtain ⟨p, dx, rfl, hp, q⟩ := h
    refine ⟨(by show 1 ≤ sizeLine; decide), fun l0 h0 => ⟨l0, 8, [.int 0], rfl, rfl, upd_same, by decide, by decide, by decide, fun la hla => ?_⟩⟩
    have s0 : Same H (upd H l0 (.lst [.int 0])) := same_upd h0
    rw [zeros_eq] at *
    have s1 : Same (upd H l0 (.lst [.int 0])) (upd (upd H l0 (.lst [.int 0])) la (.lst (ivs Km361.tree0.above))) := same_upd hla
    have hlap : la ≠ p := fun e => by
      have z := s0 _ _ hp
      rw [e] at hla
      rw [hla] at z
      cases z
    have hp1 := s1 _ _ (s0 _ _ hp)
    have ha1 : upd (upd H l0 (.lst [.int 0])) la (.lst (ivs Km361.tree0.above)) la = some (.lst (ivs Km361.tree0.above)) := upd_same
    have sH := s0.trans s1
    generalize upd (upd H l0 (.lst [.int 0])) la (.lst (ivs Km361.tree0.above)) = H1 at hp1 ha1 sH ⊢
    refine ⟨_, rfl, p, CT, dx, _, rfl, hp1, T.cT, T.nBelow, (by show 0 < 1000; decide), ?_⟩
    have ha2 : upd H1 p (.ins CT dx (putF "below" (.ref la) [])) la = some (.lst (ivs Km361.tree0.above)) := by
      rw [upd_ne hlap]
      exact ha1
    have hp2 : upd H1 p (.ins CT dx (putF "below" (.ref la) [])) p = some (.ins CT dx (putF "below" (.ref la) [])) := upd_same
    have k2 : ∀ b o, H b = some o → b ≠ p → upd H1 p (.ins CT dx (putF "below" (.ref la) [])) b = some o := fun b o e hb => by
      rw [upd_ne hb]
      exact sH _ _ e
    generalize upd H1 p (.ins CT dx (putF "below" (.ref la) [])) = H2 at ha2 hp2 k2 ⊢
    refine ⟨(by show 1 ≤ sizeLine; decide), fun l3 h3 => ⟨l3, 8, [.int 0], rfl, rfl, upd_same, by decide, by decide, by decide, fun lm hlm => ?_⟩⟩
    have s3 : Same H2 (upd H2 l3 (.lst [.int 0])) := same_upd h3
    rw [zeros_eq2]
    have s4 : Same (upd H2 l3 (.lst [.int 0])) (upd (upd H2 l3 (.lst [.int 0])) lm (.lst (ivs Km361.tree0.much))) := same_upd hlm
    have hm2 : H2 lm = none := s3.free hlm
    have hlmp : lm ≠ p := fun e => by
      rw [e, hp2] at hm2
      cases hm2
    have hlma : la ≠ lm := fun e => by
      rw [← e, ha2] at hm2
      cases hm2
    have s5 := s3.trans s4
    have hm5 : upd (upd H2 l3 (.lst [.int 0])) lm (.lst (ivs Km361.tree0.much)) lm = some (.lst (ivs Km361.tree0.much)) := upd_same
    generalize upd (upd H2 l3 (.lst [.int 0])) lm (.lst (ivs Km361.tree0.much)) = H5 at s5 hm5 ⊢
    refine ⟨_, rfl, p, CT, dx, _, rfl, s5 _ _ hp2, T.cT, T.nWeights, (by show 1 < 1000; decide), ?_⟩
    refine q _ la lm ⟨dx, ?_, ?_, ?_, hlma⟩ (s0.free hla) ?_ fun b o e hb => ?_
    · rw [tF_new]
      exact upd_same
    · rw [upd_ne hlap]
      exact s5 _ _ ha2
    · rw [upd_ne hlmp]
      exact hm5
    · cases e : H lm with
      | none => rfl
      | some o =>
        have z := k2 lm o e hlmp
        rw [hm2] at z
        cases z
    · rw [upd_ne hb]
      exact s5 _ _ (k2 b o e hb)

/-! ### are_two_places, has_line, free_number -/
theorem scTwo : FnScope ["one", "other"] ["one", "other"] (defScope sTwo) := ⟨rfl, rfl, rfl, by decide +kernel, rfl, by decide +kernel, by decide +kernel⟩
theorem ok_two (T : Txt K mg CN CL CT) (F : FunAt K mg "are_two_places" sTwo ["one", "other"]) : Def P w K mg base "are_two_places" 1 ["one", "other"] spTwo := by
  refine def_mk F scTwo (fun vs H Q E h => ?_) (fun f cdv A outer s H vs Q E hr h => ?_)
  · obtain ⟨a, b, rfl, _⟩ := h
    rfl
  · refine ⟨_, pss_one (ps_ret (pe_and (pe_cmpR op_lt (pv 0) (pe_num rfl T.places) (nomark _)) (pe_and (pe_cmpR op_lt (pv 1) (pe_num rfl T.places) (nomark _)) (pe_one (pe_cmpR op_ne (pv 0) (pv 1) (nomark _)))))), ?_⟩
    obtain ⟨a, b, rfl, q⟩ := h
    refine ⟨_, rfl, _, _, rfl, rfl, _, rfl, ?_⟩
    have q' : Q (.bl (decide (a < 8) && (decide (b < 8) && decide (a ≠ b)))) H := q
    by_cases ca : a < 8
    · refine if_true_of (decide_eq_true (by omega)) ⟨_, rfl, _, _, rfl, rfl, _, rfl, ?_⟩
      by_cases cb : b < 8
      · refine if_true_of (decide_eq_true (by omega)) ⟨_, rfl, _, rfl, rfl, ?_⟩
        rw [decide_eq_true ca, decide_eq_true cb] at q'
        have e : (!decide (iv a = iv b)) = (true && (true && decide (a ≠ b))) := by
          by_cases c : a = b
          · subst c
            simp
          · have c' : ¬ iv a = iv b := fun z => c (Int.ofNat_inj.mp (V.int.inj z))
            simp [c, c']
        rw [e]
        exact q'
      · refine if_false_of (decide_eq_false (by omega)) ?_
        rw [decide_eq_true ca, decide_eq_false cb] at q'
        exact q'
    · refine if_false_of (decide_eq_false (by omega)) ?_
      rw [decide_eq_false ca] at q'
      exact q'
theorem net_at {CN CL : Addr} {H : Hp} {x l : Addr} {n : Km361.Net} {cs : List Cell} (h3 : n.lines = cs.map (Option.map Prod.snd)) {i : Nat} {c : Cell} (h : cs[i]? = some c) : n.line i = c.map Prod.snd :=
  line_at (by rw [h3, List.getElem?_map, h]; rfl)
theorem cell_iff (c : Cell) : (decide (cellV c = .non)) = (c.map Prod.snd).isNone := by
  cases c <;> rfl
theorem scHas : FnScope ["net", "number"] ["net", "number"] (defScope sHas) := ⟨rfl, rfl, rfl, by decide +kernel, rfl, by decide +kernel, by decide +kernel⟩
theorem ok_has (T : Txt K mg CN CL CT) (F : FunAt K mg "has_line" sHas ["net", "number"]) : Def P w K mg base "has_line" 1 ["net", "number"] (spHas CN CL) := by
  refine def_mk F scHas (fun vs H Q E h => ?_) (fun f cdv A outer s H vs Q E hr h => ?_)
  · obtain ⟨x, l, n, k, rfl, _⟩ := h
    rfl
  · refine ⟨_, pss_one (ps_ret (pe_and (pe_cmpR op_lt (pv 1) (pe_num rfl T.lines) (nomark _)) (pe_one (pe_cmp (pc_notN (pe_ix ix_list (pe_fld (pv 0) rfl) (pv 1) (fun _ _ => rfl))))))), ?_⟩
    obtain ⟨x, l, n, k, rfl, hN, ho, q⟩ := h
    obtain ⟨dx, cs, h1, h2, h3, h4, h5⟩ := hN.ex
    have hl : cs.length = 24 := by
      rw [← ho.len, h3, List.length_map]
    refine ⟨_, rfl, _, _, rfl, rfl, _, rfl, ?_⟩
    by_cases c : k < 24
    · have hc : cs[k]? = some cs[k] := List.getElem?_eq_getElem (by omega)
      refine if_true_of (decide_eq_true (by omega)) ⟨_, rfl, x, CN, dx, _, _, rfl, h1, T.cN, T.nLines, nF_lines l, _, rfl, l, _, _, _, rfl, rfl, SqL.of h2, atI_iv (by rw [List.getElem?_map, hc]; rfl), ?_⟩
      show Q (.bl (!decide (cellV cs[k] = .non))) H
      rw [cell_iff, ← net_at (CN := CN) (CL := CL) (H := H) (x := x) (l := l) h3 hc, Option.not_isNone]
      exact q
    · refine if_false_of (decide_eq_false (by omega)) ?_
      rw [line_getD ho (by omega)] at q
      exact q
theorem scFree : FnScope ["net", "number", "line"] ["net"] (defScope sFree) := ⟨rfl, rfl, rfl, by decide +kernel, rfl, by decide +kernel, by decide +kernel⟩
theorem ok_free (T : Txt K mg CN CL CT) (F : FunAt K mg "free_number" sFree ["net"]) : Def P w K mg base "free_number" 1 ["net"] (spFree CN CL) := by
  refine def_mk F scFree (fun vs H Q E h => ?_) (fun f cdv A outer s H vs Q E hr h => ?_)
  · obtain ⟨x, l, n, rfl, _⟩ := h
    rfl
  · refine ⟨_, pss_cons (ps_for PassesOwn.never rfl (pi_enum rfl T.enumerate (pa_cons (pe_fld (pv 0) rfl) pa_nil))
        (pg_tup rfl (pgs_cons (pg_name (i := 1) scFree.nd rfl (Or.inl rfl)) (pgs_cons (pg_name (i := 2) scFree.nd rfl (Or.inl rfl)) pgs_nil)))
        (pss_one (ps_if (pt_cmp (pc_isN (pv 2))) (pss_one (ps_ret (pv 1))) pss_nil)))
      (pss_one (ps_ret (pe_un un_neg pe_int))), ?_⟩
    obtain ⟨x, l, n, rfl, hN, ho, q⟩ := h
    obtain ⟨dx, cs, h1, h2, h3, h4, h5⟩ := hN.ex
    have hl : cs.length = 24 := by
      rw [← ho.len, h3, List.length_map]
    refine ⟨_, rfl, x, CN, dx, _, _, rfl, h1, T.cN, T.nLines, nF_lines l, l, _, rfl, SqL.of h2,
      for_it (walk_enum (K := K) (a := l) (xs := cs.map cellV)) (fun i σ H' => Same H H' ∧ (∀ j, j < i → n.line j ≠ none) ∧ ∃ v v' : Option V, σ = [some (.ref x), v, v'])
        ⟨Same.refl H, fun j hj => absurd hj (Nat.not_lt_zero j), none, none, rfl⟩ (fun i σ H' _ ⟨e, _⟩ => e.seq (SqL.of h2)) ?_ ?_⟩
    · rintro i _ σ H' _ _ ⟨e, hb, v, v', rfl⟩ ⟨TT, k, y, rfl, hT, rfl, hk, hi⟩
      obtain rfl : iv i = k := Option.some.inj hk
      obtain ⟨c, hc, rfl⟩ := map_at hi
      have hn := net_at (CN := CN) (CL := CL) (H := H) (x := x) (l := l) h3 hc
      have hi24 : i < 24 := by
        have := (List.getElem?_eq_some_iff.mp hc).1
        omega
      refine ⟨TT, _, rfl, SqT.of upd_same, rfl, _, _, rfl, _, _, rfl, rfl, _, rfl, _, rfl, ?_⟩
      rw [cell_iff, ← hn]
      have s1 := e.trans (same_upd (o := .tup [iv i, cellV c]) hT)
      cases z : n.line i with
      | none =>
        refine if_true_of rfl ⟨_, rfl, ?_⟩
        have q' := q _ s1
        unfold freeI at q'
        rw [free_some hi24 hb z] at q'
        exact q'
      | some ln =>
        refine if_false_of rfl ⟨s1, fun j hj => ?_, _, _, rfl⟩
        by_cases hji : j = i
        · subst hji
          rw [z]
          intro k
          cases k
        · exact hb j (by omega)
    · rintro σ H' ⟨e, hb, v, v', rfl⟩
      rw [List.length_map, hl] at hb
      refine ⟨_, rfl, ?_⟩
      have q' := q _ e
      unfold freeI at q'
      rw [free_none hb] at q'
      exact q'
end
end Tc

namespace Tc
open PySem PySem.Spec PyProof.Rows L2
section
variable {P : Program} {w : World} {K : PySem.W.Frag} {mg : Str → Option Value} {base : Heap} {CN CL CT : Addr}

/-! ### hang -/
theorem iv_inj {a b : Nat} (h : iv a = iv b) : a = b := Int.ofNat_inj.mp (V.int.inj h)
theorem dec_iv (a b : Nat) : decide (iv a = iv b) = decide (a = b) := by
  by_cases c : a = b
  · subst c
    simp
  · have c' : ¬ iv a = iv b := fun z => c (iv_inj z)
    rw [decide_eq_false c, decide_eq_false c']
theorem scHang : FnScope ["tree", "edges", "place", "upper", "cut", "other"] ["tree", "edges", "place"] (defScope sHang) := ⟨rfl, rfl, rfl, by decide +kernel, rfl, by decide +kernel, by decide +kernel⟩
theorem ok_hang (T : Txt K mg CN CL CT) (F : FunAt K mg "hang" sHang ["tree", "edges", "place"]) (D : Def P w K mg base "has_place" 1 ["side", "place"] spPlace) (DC : Def P w K mg base "cut_of" 2 ["edges", "one", "other"] spCut) :
    Def P w K mg base "hang" 3 ["tree", "edges", "place"] (spHang CT) := by
  refine def_mk F scHang (fun vs H Q E h => ?_) (fun f cdv A outer s H vs Q E hr h => ?_)
  · obtain ⟨x, la, lm, pe, f, t, s, rfl, _⟩ := h
    rfl
  · have hr1 : Room 1 _ := hr.mono (by decide)
    refine ⟨_, pss_cons (ps_set (i := 3) scHang.nd rfl (Or.inl rfl) (pe_ix ix_list (pe_fld (pv 0) rfl) (pv 2) (fun _ _ => rfl)))
      (pss_cons (ps_set (i := 4) scHang.nd rfl (Or.inl rfl) (pe_def DC hr rfl (pa_cons (pv 1) (pa_cons (pv 2) (pa_cons (pv 3) pa_nil)))))
      (pss_cons (ps_asg (pe_ix ix_list (pv 1) (pv 4) (fun _ _ => rfl)) (pg_sub (pe_fld (pv 0) rfl) (pv 2) set_list))
      (pss_one (ps_for PassesOwn.never rfl (pi_range2 rfl T.range (pa_cons (pe_op op_add (pv 2) pe_int) (pa_cons (pe_num rfl T.places) pa_nil))) (pg_name (i := 5) scHang.nd rfl (Or.inl rfl))
        (pss_one (ps_if (PW.pt (pw_and (pt_cmpR op_eq (pe_ix ix_list (pe_fld (pv 0) rfl) (pv 5) (fun _ _ => rfl)) (pv 3) (nomark _)) (pw_and1 (pt_val (pe_def D hr1 rfl (pa_cons (pv 4) (pa_cons (pv 5) pa_nil)))))))
          (pss_one (ps_asg (pv 2) (pg_sub (pe_fld (pv 0) rfl) (pv 5) set_list))) pss_nil)))))), ?_⟩
    obtain ⟨x, la, lm, pe, f, t, s, rfl, ⟨dx, hx, hla, hlm, hne⟩, ht, he, h0, h8, q⟩ := h
    have lla : (ivs t.above).length = 8 := by rw [ivs_len, ht.la]
    have llm : (ivs t.much).length = 8 := by rw [ivs_len, ht.lm]
    have hp8 : Km361.at_ t.above s < s := ht.up s h0 h8
    have npa : pe ≠ la := ne_len he hla (by rw [edgesV_len, lla]; decide)
    have npm : pe ≠ lm := ne_len he hlm (by rw [edgesV_len, llm]; decide)
    have nxa : x ≠ la := ne_of hx hla (by intro z; cases z)
    have nxm : x ≠ lm := ne_of hx hlm (by intro z; cases z)
    -- upper = tree.below[place]
    refine ⟨_, rfl, x, CT, dx, _, _, rfl, hx, T.cT, T.nBelow, tF_below la lm, _, rfl, la, _, _, _, rfl, rfl, SqL.of hla, atI_iv (ivs_at (by rw [ht.la]; exact h8)), ?_⟩
    -- cut = cut_of(edges, place, upper)
    refine ⟨_, rfl, _, rfl, _, rfl, pe, f, s, Km361.at_ t.above s, rfl, he, h8, by omega, by omega, fun H1 s1 => ?_⟩
    have hc256 : cutF f s (Km361.at_ t.above s) < 256 := cutF_lt f h8
    generalize hcut : cutF f s (Km361.at_ t.above s) = c at hc256 ⊢
    -- tree.weights[place] = edges[cut]
    refine ⟨_, rfl, _, rfl, pe, _, _, _, rfl, rfl, SqL.of (s1 _ _ he), atI_iv (edgesV_at f hc256), ?_⟩
    refine ⟨_, rfl, x, CT, dx, _, _, rfl, s1 _ _ hx, T.cT, T.nWeights, tF_weights la lm, _, rfl, lm, _, _, _, rfl, rfl, s1 _ _ hlm, ixN_iv (by rw [llm]; exact h8), ?_⟩
    rw [ivs_set]
    -- the loop
    have hx2 : upd H1 lm (.lst (ivs (t.much.set s (f c)))) x = some (.ins CT dx [("below", .ref la), ("weights", .ref lm)]) := by
      rw [upd_ne nxm]
      exact s1 _ _ hx
    have ha2 : upd H1 lm (.lst (ivs (t.much.set s (f c)))) la = some (.lst (ivs t.above)) := by
      rw [upd_ne hne]
      exact s1 _ _ hla
    have hm2 : upd H1 lm (.lst (ivs (t.much.set s (f c)))) lm = some (.lst (ivs (t.much.set s (f c)))) := upd_same
    have k2 : ∀ b o, H b = some o → b ≠ la → b ≠ lm → upd H1 lm (.lst (ivs (t.much.set s (f c)))) b = some o := fun b o e _ hb => by
      rw [upd_ne hb]
      exact s1 _ _ e
    generalize upd H1 lm (.lst (ivs (t.much.set s (f c)))) = H2 at hx2 ha2 hm2 k2 ⊢
    refine ⟨_, rfl, _, _, rfl, rfl, (s : Int) + 1, 8, rfl, by omega, for_range (lo := (s : Int) + 1) (n := (8 - ((s : Int) + 1)).toNat) (fun i σ H' =>
      (∃ v : Option V, σ = [some (.ref x), some (.ref pe), some (iv s), some (iv (Km361.at_ t.above s)), some (iv c), v]) ∧ H' x = some (.ins CT dx [("below", .ref la), ("weights", .ref lm)]) ∧
        H' la = some (.lst (ivs (hung t.above c s (Km361.at_ t.above s) i))) ∧ H' lm = some (.lst (ivs (t.much.set s (f c)))) ∧ ∀ b o, H b = some o → b ≠ la → b ≠ lm → H' b = some o)
      ⟨⟨none, rfl⟩, hx2, by rw [hung_zero ht.la]; exact ha2, hm2, k2⟩ ?_ ?_⟩
    · rintro i σ H' hi ⟨⟨v, rfl⟩, hx3, ha3, hm3, k3⟩
      have hi8 : s + 1 + i < 8 := by omega
      have e0 : V.int ((s : Int) + 1 + ((i : Nat) : Int)) = iv (s + 1 + i) := rfl
      rw [e0]
      have hat : (ivs (hung t.above c s (Km361.at_ t.above s) i))[s + 1 + i]? = some (iv (Km361.at_ t.above (s + 1 + i))) := by
        rw [ivs_at (by rw [hung_len]; exact hi8), hung_here hi8]
      refine ⟨_, rfl, x, CT, dx, _, _, rfl, hx3, T.cT, T.nBelow, tF_below la lm, _, rfl, la, _, _, _, rfl, rfl, SqL.of ha3, atI_iv hat, _, rfl, rfl, _, rfl, ?_⟩
      rw [dec_iv]
      by_cases c1 : Km361.at_ t.above (s + 1 + i) = Km361.at_ t.above s
      · refine if_true_of (decide_eq_true c1) ⟨_, rfl, _, rfl, c, s + 1 + i, rfl, _, rfl, ?_⟩
        cases c2 : c.testBit (s + 1 + i) with
        | true =>
          refine if_true_of rfl ⟨_, rfl, _, rfl, x, CT, dx, _, _, rfl, hx3, T.cT, T.nBelow, tF_below la lm, _, rfl, la, _, _, _, rfl, rfl, ha3, ixN_iv (by rw [ivs_len, hung_len]; exact hi8), ⟨_, rfl⟩, ?_, ?_, ?_, ?_⟩
          · rw [upd_ne nxa]
            exact hx3
          · rw [upd_same, ivs_set, hung_yes hi8 c1 c2]
          · rw [upd_ne (Ne.symm hne)]
            exact hm3
          · intro b o e hb hb'
            rw [upd_ne hb]
            exact k3 b o e hb hb'
        | false =>
          refine if_false_of rfl ⟨⟨_, rfl⟩, hx3, ?_, hm3, k3⟩
          rw [← hung_no hi8 fun z => by rw [c2] at z; cases z.2]
          exact ha3
      · refine if_false_of (decide_eq_false c1) ?_
        refine if_false_of rfl ⟨⟨_, rfl⟩, hx3, ?_, hm3, k3⟩
        rw [← hung_no hi8 fun z => c1 z.1]
        exact ha3
    · rintro σ H' ⟨⟨v, rfl⟩, hx3, ha3, hm3, k3⟩
      have e7 : (8 - ((s : Int) + 1)).toNat = 7 - s := by omega
      rw [e7] at ha3
      refine q H' ⟨dx, hx3, ?_, ?_, hne⟩ k3
      · rw [hung_end h8, hcut]
        exact ha3
      · rw [hung_end h8, hcut]
        exact hm3

/-! ### tree_of -/
theorem scTree : FnScope ["edges", "tree", "place"] ["edges"] (defScope sTree) := ⟨rfl, rfl, rfl, by decide +kernel, rfl, by decide +kernel, by decide +kernel⟩
theorem ok_tree (T : Txt K mg CN CL CT) (F : FunAt K mg "tree_of" sTree ["edges"]) (M : MakeAt P w K mg base CT ["self"] (spTree0 CT)) (D : Def P w K mg base "hang" 3 ["tree", "edges", "place"] (spHang CT)) :
    Def P w K mg base "tree_of" 4 ["edges"] (spTree CT) := by
  refine def_mk F scTree (fun vs H Q E h => ?_) (fun f cdv A outer s H vs Q E hr h => ?_)
  · obtain ⟨pe, f, rfl, _⟩ := h
    rfl
  · have hr2 : Room 2 _ := hr.mono (by decide)
    refine ⟨_, pss_cons (ps_set (i := 1) scTree.nd rfl (Or.inl rfl) (pe_new0 M hr2 rfl T.gT))
      (pss_cons (ps_for PassesOwn.never rfl (pi_range2 rfl T.range (pa_cons pe_int (pa_cons (pe_num rfl T.places) pa_nil))) (pg_name (i := 2) scTree.nd rfl (Or.inl rfl))
        (pss_one (ps_expr (pe_def D hr rfl (pa_cons (pv 1) (pa_cons (pv 0) (pa_cons (pv 2) pa_nil)))))))
      (pss_one (ps_ret (pv 1)))), ?_⟩
    obtain ⟨pe, f, rfl, he, hf, q⟩ := h
    intro x dx nx nd ne
    refine ⟨x, dx, rfl, upd_same, fun H1 la lm hT nla nlm kp => ⟨rfl, ?_⟩⟩
    have s1 : Same H H1 := Same.made nx nd kp
    have nla0 : H la = none := by
      cases e : H la with
      | none => rfl
      | some o =>
        have z : upd (upd H dx (.own x)) x (.ins CT dx []) la = some o := by
          rw [upd_ne (ne_of_none e nx), upd_ne (ne_of_none e nd)]
          exact e
        rw [nla] at z
        cases z
    have nlm0 : H lm = none := by
      cases e : H lm with
      | none => rfl
      | some o =>
        have z : upd (upd H dx (.own x)) x (.ins CT dx []) lm = some o := by
          rw [upd_ne (ne_of_none e nx), upd_ne (ne_of_none e nd)]
          exact e
        rw [nlm] at z
        cases z
    refine ⟨1, 8, rfl, by omega, for_range (lo := 1) (n := ((8 : Int) - 1).toNat) (fun i σ H' =>
      (∃ v : Option V, σ = [some (.ref pe), some (.ref x), v]) ∧ TreeAt CT H' x la lm (treeF f i) ∧ Same H H')
      ⟨⟨none, rfl⟩, hT, s1⟩ ?_ ?_⟩
    · rintro i σ H' hi ⟨⟨v, rfl⟩, hT', s2⟩
      have hi7 : i < 7 := hi
      have e0 : V.int (1 + ((i : Nat) : Int)) = iv (i + 1) := congrArg V.int (Int.add_comm _ _)
      rw [e0]
      refine ⟨_, rfl, _, rfl, _, rfl, x, la, lm, pe, f, treeF f i, i + 1, rfl, hT', treeF_ok hf i (by omega), s2 _ _ he, by omega, by omega, fun H2 hT2 k2 => ?_⟩
      exact ⟨⟨_, rfl⟩, hT2, fun b o e => k2 b o (s2 b o e) (ne_of_none e nla0) (ne_of_none e nlm0)⟩
    · rintro σ H' ⟨⟨v, rfl⟩, hT', s2⟩
      exact ⟨_, rfl, q H' x la lm hT' s2⟩

/-! ### least_between -/
theorem way_len (t : Km361.Tree) : ∀ g a b, (way t g a b).length ≤ g
  | 0, _, _ => Nat.le_refl _
  | g + 1, a, b => by
    show (if a = b then [] else if b < a then Km361.at_ t.much a :: way t g (Km361.at_ t.above a) b else Km361.at_ t.much b :: way t g a (Km361.at_ t.above b)).length ≤ g + 1
    split
    · exact Nat.zero_le _
    · split
      · rw [List.length_cons]
        have := way_len t g (Km361.at_ t.above a) b
        omega
      · rw [List.length_cons]
        have := way_len t g a (Km361.at_ t.above b)
        omega
theorem way_same (t : Km361.Tree) (g a : Nat) : way t g a a = [] := by
  cases g with
  | zero => rfl
  | succ g => exact if_pos rfl
theorem way_one {t : Km361.Tree} {g a b : Nat} (h : b < a) : way t (g + 1) a b = Km361.at_ t.much a :: way t g (Km361.at_ t.above a) b := by
  show (if a = b then [] else if b < a then Km361.at_ t.much a :: way t g (Km361.at_ t.above a) b else Km361.at_ t.much b :: way t g a (Km361.at_ t.above b)) = _
  rw [if_neg (by omega), if_pos h]
theorem way_two {t : Km361.Tree} {g a b : Nat} (h : a < b) : way t (g + 1) a b = Km361.at_ t.much b :: way t g a (Km361.at_ t.above b) := by
  show (if a = b then [] else if b < a then Km361.at_ t.much a :: way t g (Km361.at_ t.above a) b else Km361.at_ t.much b :: way t g a (Km361.at_ t.above b)) = _
  rw [if_neg (by omega), if_neg (by omega)]
theorem way_ne {t : Km361.Tree} {g a b : Nat} (h : a ≠ b) : way t (g + 1) a b ≠ [] := by
  rcases Nat.lt_or_gt_of_ne h with c | c
  · rw [way_two c]
    exact List.cons_ne_nil _ _
  · rw [way_one c]
    exact List.cons_ne_nil _ _
/-- the number that stands in a slot -/
def slotN (σ : L2.St) (i : Nat) : Nat := match σ[i]? with
  | some (some (.int z)) => z.toNat
  | _ => 0
theorem scLB : FnScope ["tree", "one", "other", "weights", "here", "there"] ["tree", "one", "other"] (defScope sLB) := ⟨rfl, rfl, rfl, by decide +kernel, rfl, by decide +kernel, by decide +kernel⟩
theorem ok_lb (T : Txt K mg CN CL CT) (F : FunAt K mg "least_between" sLB ["tree", "one", "other"]) : Def P w K mg base "least_between" 1 ["tree", "one", "other"] (spLB CT) := by
  refine def_mk F scLB (fun vs H Q E h => ?_) (fun f cdv A outer s H vs Q E hr h => ?_)
  · obtain ⟨x, la, lm, t, a, b, rfl, _⟩ := h
    rfl
  · refine ⟨_, pss_cons (ps_set (i := 3) scLB.nd rfl (Or.inl rfl) (pe_lst pa_nil))
      (pss_cons (ps_par (i := 4) (j := 5) (by rfl) scLB.nd rfl rfl (by decide) rfl rfl (pa_cons (pv 1) (pa_cons (pv 2) pa_nil)) (by rfl))
      (pss_cons (ps_while PassesOwn.never (pt_cmpR op_ne (pv 4) (pv 5) (nomark _))
        (pss_one (ps_if (pt_cmpR op_gt (pv 4) (pv 5) (nomark _))
          (pss_cons (ps_expr (pe_bm PySem.F.plainAttrs_list PySem.F.slot_list_append PySem.F.type_list_append mt_append (pv 3) (pa_cons (pe_ix ix_list (pe_fld (pv 0) rfl) (pv 4) (fun _ _ => rfl)) pa_nil)))
            (pss_one (ps_set (i := 4) scLB.nd rfl (Or.inl rfl) (pe_ix ix_list (pe_fld (pv 0) rfl) (pv 4) (fun _ _ => rfl)))))
          (pss_cons (ps_expr (pe_bm PySem.F.plainAttrs_list PySem.F.slot_list_append PySem.F.type_list_append mt_append (pv 3) (pa_cons (pe_ix ix_list (pe_fld (pv 0) rfl) (pv 5) (fun _ _ => rfl)) pa_nil)))
            (pss_one (ps_set (i := 5) scLB.nd rfl (Or.inl rfl) (pe_ix ix_list (pe_fld (pv 0) rfl) (pv 5) (fun _ _ => rfl))))))))
      (pss_one (ps_ret (pe_callB (cr_min rfl) rfl T.min boot_min (pa_cons (pv 3) pa_nil)))))), ?_⟩
    obtain ⟨x, la, lm, t, a, b, rfl, hT, ht, ha, hb, hab, q⟩ := h
    refine ⟨Nat.zero_le _, fun L hL => ⟨_, rfl, _, rfl, _, _, rfl, ?_⟩⟩
    have pre : ∀ acc g u v, way t 16 a b = acc ++ way t g u v → acc.length ≤ 16 := fun acc g u v e => by
      have := way_len t 16 a b
      rw [e, List.length_append] at this
      omega
    refine while_by (fun σ H' => ∃ (u v g : Nat) (acc : List Nat), σ = [some (.ref x), some (iv a), some (iv b), some (.ref L), some (iv u), some (iv v)] ∧ u < 8 ∧ v < 8 ∧ u + v ≤ g ∧
        H' = upd H L (.lst (ivs acc)) ∧ way t 16 a b = acc ++ way t g u v) (fun σ _ => slotN σ 4 + slotN σ 5) ⟨a, b, 16, [], rfl, ha, hb, by omega, rfl, rfl⟩ ?_ ?_
    · rintro σ H' ⟨u, v, g, acc, rfl, hu, hv, hg, rfl, ew⟩
      obtain ⟨dx, hx, hla, hlm, hne⟩ := hT.same (same_upd (o := .lst (ivs acc)) hL)
      refine ⟨_, rfl, _, rfl, rfl, _, rfl, ?_⟩
      rw [dec_iv]
      by_cases c : u = v
      · refine if_false_of (by rw [decide_eq_true c]; rfl) ?_
        subst c
        rw [way_same, List.append_nil] at ew
        have hw := way_w t ht 16 a b ha hb
        rw [ew] at hw
        have hne : acc ≠ [] := by
          rw [← ew]
          exact way_ne hab
        have em : ivs acc = (asInts acc).map V.int := by
          unfold ivs asInts
          rw [List.map_map]
          rfl
        refine ⟨_, rfl, L, asInts acc, rfl, SqL.of (by rw [← em]; exact upd_same), ?_, fun m hm hle => ?_⟩
        · rw [asInts_len]
          exact List.length_pos_iff.mpr hne
        · obtain ⟨k, hk, rfl⟩ := List.mem_map.mp hm
          have hmin : mins 24000 acc = k := mins_is hk (fun y my => Int.ofNat_le.mp (hle _ (List.mem_map.mpr ⟨y, my, rfl⟩))) (hw k hk)
          have q' := q _ (same_upd (o := .lst (ivs acc)) hL)
          rw [way_least t ht 16 a b ha hb (by omega), ew, hmin] at q'
          exact q'
      · refine if_true_of (by rw [decide_eq_false c]; rfl) ⟨_, rfl, _, rfl, _, _, rfl, rfl, _, rfl, ?_⟩
        have hlen := pre acc g u v ew
        obtain ⟨g', rfl⟩ : ∃ g', g = g' + 1 := ⟨g - 1, by omega⟩
        by_cases c1 : v < u
        · have up := ht.up u (by omega) hu
          refine if_true_of (decide_eq_true (Int.ofNat_lt.mpr c1)) ?_
          refine ⟨_, rfl, .inl ⟨rfl, _, SqL.of upd_same⟩, _, rfl, x, CT, dx, _, _, rfl, hx, T.cT, T.nWeights, tF_weights la lm, _, rfl, lm, _, _, _, rfl, rfl, SqL.of hlm, atI_iv (ivs_at (by rw [ht.lm]; exact hu)), ?_⟩
          refine ⟨L, _, _, rfl, rfl, upd_same, ?_, ?_⟩
          · rw [ivs_len]
            exact small256 (by omega)
          · rw [upd_upd]
            obtain ⟨dx2, hx2, hla2, hlm2, hne2⟩ := hT.same (same_upd (o := .lst (ivs acc ++ [iv (Km361.at_ t.much u)])) hL)
            refine ⟨_, rfl, x, CT, dx2, _, _, rfl, hx2, T.cT, T.nBelow, tF_below la lm, _, rfl, la, _, _, _, rfl, rfl, SqL.of hla2, atI_iv (ivs_at (by rw [ht.la]; exact hu)), ?_⟩
            refine ⟨⟨Km361.at_ t.above u, v, g', acc ++ [Km361.at_ t.much u], rfl, by omega, hv, by omega, ?_, ?_⟩, ?_⟩
            · rw [← ivs_append]
              rfl
            · rw [ew, way_one c1, List.append_assoc]
              rfl
            · show Km361.at_ t.above u + v < u + v
              omega
        · have c2 : u < v := by omega
          have up := ht.up v (by omega) hv
          refine if_false_of (decide_eq_false fun z => c1 (Int.ofNat_lt.mp z)) ?_
          refine ⟨_, rfl, .inl ⟨rfl, _, SqL.of upd_same⟩, _, rfl, x, CT, dx, _, _, rfl, hx, T.cT, T.nWeights, tF_weights la lm, _, rfl, lm, _, _, _, rfl, rfl, SqL.of hlm, atI_iv (ivs_at (by rw [ht.lm]; exact hv)), ?_⟩
          refine ⟨L, _, _, rfl, rfl, upd_same, ?_, ?_⟩
          · rw [ivs_len]
            exact small256 (by omega)
          · rw [upd_upd]
            obtain ⟨dx2, hx2, hla2, hlm2, hne2⟩ := hT.same (same_upd (o := .lst (ivs acc ++ [iv (Km361.at_ t.much v)])) hL)
            refine ⟨_, rfl, x, CT, dx2, _, _, rfl, hx2, T.cT, T.nBelow, tF_below la lm, _, rfl, la, _, _, _, rfl, rfl, SqL.of hla2, atI_iv (ivs_at (by rw [ht.la]; exact hv)), ?_⟩
            refine ⟨⟨u, Km361.at_ t.above v, g', acc ++ [Km361.at_ t.much v], rfl, hu, by omega, by omega, ?_, ?_⟩, ?_⟩
            · rw [← ivs_append]
              rfl
            · rw [ew, way_two c2, List.append_assoc]
              rfl
            · show u + Km361.at_ t.above v < u + v
              omega
    · rintro σ H' Q1 Q2 hq ⟨v1, h1, v2, h2, h3, k, h4, h5⟩
      exact ⟨v1, h1, v2, h2, h3, k, h4, hq _ _ h5⟩
end
end Tc

namespace Tc
open PySem PySem.Spec PyProof.Rows L2

/-! ### a call's numbers, place by place -/
theorem call1 {args : List Nat} {c : Km361.Call} (h : callN 1 args = some c) : ∃ a b m, args = [a, b, m] ∧ c = .line a b m := by
  match args, h with
  | [], h => exact absurd h (by simp [callN])
  | [a], h => exact absurd h (by simp [callN])
  | [a, b], h => exact absurd h (by simp [callN])
  | [a, b, m], h => exact ⟨a, b, m, rfl, (Option.some.inj h).symm⟩
  | _ :: _ :: _ :: _ :: _, h => exact absurd h (by simp [callN])
theorem call2 {args : List Nat} {c : Km361.Call} (h : callN 2 args = some c) : ∃ a, args = [a] ∧ c = .drop a := by
  match args, h with
  | [], h => exact absurd h (by simp [callN])
  | [a], h => exact ⟨a, rfl, (Option.some.inj h).symm⟩
  | [a, b], h => exact absurd h (by simp [callN])
  | [a, b, m], h => exact absurd h (by simp [callN])
  | _ :: _ :: _ :: _ :: _, h => exact absurd h (by simp [callN])
theorem call3 {args : List Nat} {c : Km361.Call} (h : callN 3 args = some c) : ∃ a b, args = [a, b] ∧ c = .wide a b := by
  match args, h with
  | [], h => exact absurd h (by simp [callN])
  | [a], h => exact absurd h (by simp [callN])
  | [a, b], h => exact ⟨a, b, rfl, (Option.some.inj h).symm⟩
  | [a, b, m], h => exact absurd h (by simp [callN])
  | _ :: _ :: _ :: _ :: _, h => exact absurd h (by simp [callN])
theorem call4 {args : List Nat} {c : Km361.Call} (h : callN 4 args = some c) : ∃ a b, args = [a, b] ∧ c = .between a b := by
  match args, h with
  | [], h => exact absurd h (by simp [callN])
  | [a], h => exact absurd h (by simp [callN])
  | [a, b], h => exact ⟨a, b, rfl, (Option.some.inj h).symm⟩
  | [a, b, m], h => exact absurd h (by simp [callN])
  | _ :: _ :: _ :: _ :: _, h => exact absurd h (by simp [callN])
theorem call5 {args : List Nat} {c : Km361.Call} (h : callN 5 args = some c) : args = [] ∧ c = .tree := by
  match args, h with
  | [], h => exact ⟨rfl, (Option.some.inj h).symm⟩
  | [a], h => exact absurd h (by simp [callN])
  | [a, b], h => exact absurd h (by simp [callN])
  | [a, b, m], h => exact absurd h (by simp [callN])
  | _ :: _ :: _ :: _ :: _, h => exact absurd h (by simp [callN])
theorem call6 {args : List Nat} {c : Km361.Call} (h : callN 6 args = some c) : ∃ a b, args = [a, b] ∧ c = .told a b := by
  match args, h with
  | [], h => exact absurd h (by simp [callN])
  | [a], h => exact absurd h (by simp [callN])
  | [a, b], h => exact ⟨a, b, rfl, (Option.some.inj h).symm⟩
  | [a, b, m], h => exact absurd h (by simp [callN])
  | _ :: _ :: _ :: _ :: _, h => exact absurd h (by simp [callN])
theorem call7 {args : List Nat} {c : Km361.Call} (h : callN 7 args = some c) : ∃ a, args = [a] ∧ c = .edge a := by
  match args, h with
  | [], h => exact absurd h (by simp [callN])
  | [a], h => exact ⟨a, rfl, (Option.some.inj h).symm⟩
  | [a, b], h => exact absurd h (by simp [callN])
  | [a, b, m], h => exact absurd h (by simp [callN])
  | _ :: _ :: _ :: _ :: _, h => exact absurd h (by simp [callN])
theorem call8 {args : List Nat} {c : Km361.Call} (h : callN 8 args = some c) : args = [] ∧ c = .weakest := by
  match args, h with
  | [], h => exact ⟨rfl, (Option.some.inj h).symm⟩
  | [a], h => exact absurd h (by simp [callN])
  | [a, b], h => exact absurd h (by simp [callN])
  | [a, b, m], h => exact absurd h (by simp [callN])
  | _ :: _ :: _ :: _ :: _, h => exact absurd h (by simp [callN])
theorem said_only (v : Int) : (said (Km361.only v)).map V.int = [.int v] := rfl

/-! ### a line is put, taken, changed -/
theorem NetAt.put {CN CL : Addr} {H' : Hp} {x l dx : Addr} {n : Km361.Net} {cs : List Cell} {k : Nat} {c : Cell} (hx : H' x = some (.ins CN dx [("lines", .ref l)])) (hl : H' l = some (.lst ((cs.set k c).map cellV)))
    (h3 : n.lines = cs.map (Option.map Prod.snd)) (h5 : ∀ (i j : Nat) p a b, cs[i]? = some (some (p, a)) → cs[j]? = some (some (p, b)) → i = j)
    (old : ∀ (i : Nat) p ln, i ≠ k → cs[i]? = some (some (p, ln)) → LineAt CL H' p ln) (new : ∀ p ln, c = some (p, ln) → LineAt CL H' p ln ∧ ∀ (i : Nat) ln', i ≠ k → cs[i]? ≠ some (some (p, ln'))) :
    NetAt CN CL H' x l ⟨n.lines.set k (c.map Prod.snd)⟩ := by
  have at_set' : ∀ (i : Nat) (d : Cell), (cs.set k c)[i]? = some d → (i = k ∧ d = c) ∨ (i ≠ k ∧ cs[i]? = some d) := fun i d e => by
    rw [List.getElem?_set] at e
    by_cases z : k = i
    · rw [if_pos z] at e
      split at e
      · exact .inl ⟨z.symm, (Option.some.inj e).symm⟩
      · cases e
    · rw [if_neg z] at e
      exact .inr ⟨fun y => z y.symm, e⟩
  refine ⟨dx, cs.set k c, hx, hl, ?_, fun p ln m => ?_, fun i j p a b e1 e2 => ?_⟩
  · show n.lines.set k (c.map Prod.snd) = _
    rw [h3, List.map_set]
  · obtain ⟨i, e⟩ := List.mem_iff_getElem?.mp m
    rcases at_set' i _ e with ⟨_, z⟩ | ⟨ne, z⟩
    · exact (new p ln z.symm).1
    · exact old i p ln ne z
  · rcases at_set' i _ e1 with ⟨z1, y1⟩ | ⟨z1, y1⟩
    · rcases at_set' j _ e2 with ⟨z2, y2⟩ | ⟨z2, y2⟩
      · rw [z1, z2]
      · exact absurd y2 ((new p a y1.symm).2 j b z2)
    · rcases at_set' j _ e2 with ⟨z2, y2⟩ | ⟨z2, y2⟩
      · exact absurd y1 ((new p b y2.symm).2 i a z1)
      · exact h5 i j p a b y1 y2

section
variable {P : Program} {w : World} {K : PySem.W.Frag} {mg : Str → Option Value} {base : Heap} {CN CL CT : Addr}
/-- a deed that hands back a new list and leaves the net as it is -/
theorem deed_same {p : Int} {H : Hp} {x l : Addr} {n : Km361.Net} {c : Km361.Call} {Q : VK} {H1 : Hp} {y : Addr} {vs : List V} (hN : NetAt CN CL H x l n) (s1 : Same H H1) (hy : H1 y = none) (e1 : (Km361.act n c).1 = n)
    (e2 : vs = (said (Km361.act n c).2).map V.int)
    (q : ∀ H' y, H' y = some (.lst ((said (Km361.act n c).2).map V.int)) → H y = none → y ≠ l → NetAt CN CL H' x l (Km361.act n c).1 → Keeps l H H' → Q (.ref y) H') : Q (.ref y) (upd H1 y (.lst vs)) := by
  have s2 := s1.trans (same_upd (o := .lst vs) hy)
  obtain ⟨dx, cs, _, h2, _⟩ := hN.ex
  refine q _ y (by rw [e2]; exact upd_same) (s1.free hy) (fun z => ?_) (by rw [e1]; exact hN.same s2) (Keeps.of_same s2)
  have := s1 _ _ h2
  rw [← z, hy] at this
  cases this

/-! ### add_line -/
theorem scD1 : FnScope ["net", "numbers", "one", "other", "most", "number"] ["net", "numbers"] (defScope sD1) := ⟨rfl, rfl, rfl, by decide +kernel, rfl, by decide +kernel, by decide +kernel⟩
theorem ok_d1 (T : Txt K mg CN CL CT) (F : FunAt K mg "add_line" sD1 ["net", "numbers"]) (DT : Def P w K mg base "are_two_places" 1 ["one", "other"] spTwo) (DF : Def P w K mg base "free_number" 1 ["net"] (spFree CN CL))
    (ML : MakeAt P w K mg base CL ["self", "one", "other", "most"] (spLine0 CL)) : Def P w K mg base "add_line" 5 ["net", "numbers"] (spDeed CN CL 1) := by
  refine def_mk F scD1 (fun vs H Q E h => ?_) (fun f cdv A outer s H vs Q E hr h => ?_)
  · obtain ⟨x, l, q, n, args, c, rfl, _⟩ := h
    rfl
  · have hr1 : Room 1 _ := hr.mono (by decide)
    have hr2 : Room 2 _ := hr.mono (by decide)
    refine ⟨_, pss_cons (ps_asg (pv 1) (pg_unl rfl (pgs_cons (pg_name (i := 2) scD1.nd rfl (Or.inl rfl)) (pgs_cons (pg_name (i := 3) scD1.nd rfl (Or.inl rfl)) (pgs_cons (pg_name (i := 4) scD1.nd rfl (Or.inl rfl)) pgs_nil)))))
      (pss_cons (ps_if (PW.pt (pw_or (pt_not (pt_val (pe_def DT hr1 rfl (pa_cons (pv 2) (pa_cons (pv 3) pa_nil))))) (pw_or1 (pt_cmpR op_gt (pv 4) (pe_num rfl T.much) (nomark _)))))
        (pss_one (ps_ret (pe_lst (pa_cons (pe_un un_neg pe_int) pa_nil)))) pss_nil)
      (pss_cons (ps_set (i := 5) scD1.nd rfl (Or.inl rfl) (pe_def DF hr1 rfl (pa_cons (pv 0) pa_nil)))
      (pss_cons (ps_if (pt_cmpR op_lt (pv 5) pe_int (nomark _)) (pss_one (ps_ret (pe_lst (pa_cons (pe_un un_neg pe_int) pa_nil)))) pss_nil)
      (pss_cons (ps_asg (pe_new ML hr2 rfl T.gL (pa_cons (pv 2) (pa_cons (pv 3) (pa_cons (pv 4) pa_nil)))) (pg_sub (pe_fld (pv 0) rfl) (pv 5) set_list))
      (pss_one (ps_ret (pe_lst (pa_cons (pv 5) pa_nil)))))))), ?_⟩
    obtain ⟨x, l, qa, n, args, c, rfl, hN, ho, hq, hc, q⟩ := h
    obtain ⟨a, b, m, rfl, rfl⟩ := call1 hc
    obtain ⟨dx, cs, h1, h2, h3, h4, h5⟩ := hN.ex
    have hl24 : cs.length = 24 := by
      rw [← ho.len, h3, List.length_map]
    refine ⟨_, rfl, qa, _, rfl, SqL.of hq, rfl, _, _, rfl, _, _, rfl, _, _, rfl, rfl, ?_⟩
    refine ⟨_, rfl, _, rfl, a, b, rfl, _, rfl, ?_⟩
    -- the refusal
    have bad : (Km361.okPair a b = false ∨ Km361.MOST < m) → ∀ y, H y = none → Q (.ref y) (upd H y (.lst [.int (-22)])) := fun hb y hy => by
      have e : Km361.act n (.line a b m) = (n, Km361.only (-22)) := if_pos hb
      exact deed_same (p := 1) hN (Same.refl H) hy (by rw [e]) (by rw [e]; rfl) q
    cases c1 : Km361.okPair a b with
    | false => exact if_true_of rfl (if_true_of rfl ⟨_, rfl, (by show 1 ≤ sizeLine; decide), bad (.inl c1)⟩)
    | true =>
      refine if_false_of rfl ⟨_, rfl, _, _, rfl, rfl, _, rfl, ?_⟩
      by_cases c2 : 1000 < m
      · exact if_true_of (decide_eq_true (by omega)) ⟨_, rfl, (by show 1 ≤ sizeLine; decide), bad (.inr c2)⟩
      · refine if_false_of (decide_eq_false (by omega)) ?_
        have nb : ¬ (Km361.okPair a b = false ∨ Km361.MOST < m) := fun z => by
          rcases z with z | z
          · rw [c1] at z; cases z
          · exact c2 z
        refine ⟨_, rfl, x, l, n, rfl, hN, ho, fun H1 s1 => ?_⟩
        refine ⟨_, rfl, _, _, rfl, rfl, _, rfl, ?_⟩
        cases c3 : n.free with
        | none =>
          have ef : freeI n = -1 := by
            unfold freeI
            rw [c3]
          have e : Km361.act n (.line a b m) = (n, Km361.only (-28)) := by
            show (if Km361.okPair a b = false ∨ Km361.MOST < m then (n, Km361.only (-22)) else match n.free with
              | none => (n, Km361.only (-28))
              | some k => (⟨n.lines.set k (some ⟨a, b, m⟩)⟩, Km361.only ((k : Nat) : Int))) = _
            rw [if_neg nb, c3]
          refine if_true_of (by rw [ef]; rfl) ⟨_, rfl, (by show 1 ≤ sizeLine; decide), fun y hy => ?_⟩
          exact deed_same (p := 1) hN s1 hy (by rw [e]) (by rw [e]; rfl) q
        | some k =>
          have ef : freeI n = (k : Int) := by
            unfold freeI
            rw [c3]
          obtain ⟨hk, hkn⟩ := free_is c3
          have e : Km361.act n (.line a b m) = (⟨n.lines.set k (some ⟨a, b, m⟩)⟩, Km361.only ((k : Nat) : Int)) := by
            show (if Km361.okPair a b = false ∨ Km361.MOST < m then (n, Km361.only (-22)) else match n.free with
              | none => (n, Km361.only (-28))
              | some k => (⟨n.lines.set k (some ⟨a, b, m⟩)⟩, Km361.only ((k : Nat) : Int))) = _
            rw [if_neg nb, c3]
          rw [ef]
          refine if_false_of (decide_eq_false (by omega)) ?_
          refine ⟨_, rfl, _, rfl, _, rfl, fun p dp np nd nep => ⟨p, dp, a, b, m, rfl, upd_same, rfl, ?_⟩⟩
          rw [upd_upd]
          -- the heap behind Line(..)
          have s2 : Same H1 (upd (upd H1 dp (.own p)) p (.ins CL dp (lnF ⟨a, b, m⟩))) := fun b' o e' => by
            rw [upd_ne (ne_of_none e' np), upd_ne (ne_of_none e' nd)]
            exact e'
          have hp2 : upd (upd H1 dp (.own p)) p (.ins CL dp (lnF ⟨a, b, m⟩)) p = some (.ins CL dp (lnF ⟨a, b, m⟩)) := upd_same
          have s3 := s1.trans s2
          generalize upd (upd H1 dp (.own p)) p (.ins CL dp (lnF ⟨a, b, m⟩)) = H2 at s2 hp2 s3 ⊢
          have hl2 := s3 _ _ h2
          refine ⟨_, rfl, x, CN, dx, _, _, rfl, s3 _ _ h1, T.cN, T.nLines, nF_lines l, _, rfl, l, _, _, k, rfl, rfl, hl2, ixN_iv (by rw [List.length_map]; omega), ?_⟩
          refine ⟨_, rfl, (by show 1 ≤ sizeLine; decide), fun y hy => ?_⟩
          have hpH : H p = none := s1.free np
          have npl : p ≠ l := fun z => by rw [z, h2] at hpH; cases hpH
          have nxl : x ≠ l := ne_of h1 h2 (by intro z; cases z)
          have hyl : y ≠ l := fun z => by rw [z, upd_same] at hy; cases hy
          have hy2 : H2 y = none := by rw [upd_ne hyl] at hy; exact hy
          have hyH : H y = none := s3.free hy2
          have out : ∀ b' o, H2 b' = some o → b' ≠ l → upd (upd H2 l (.lst ((cs.map cellV).set k (.ref p)))) y (.lst [.int (k : Int)]) b' = some o := fun b' o e' hb => by
            rw [upd_ne (ne_of_none e' hy2), upd_ne hb]
            exact e'
          refine q _ y ?_ hyH hyl ?_ fun b' o e' hb _ => out b' o (s3 b' o e') hb
          · rw [e]
            exact upd_same
          · rw [e]
            refine NetAt.put (c := some (p, ⟨a, b, m⟩)) (k := k) (out _ _ (s3 _ _ h1) nxl) ?_ h3 h5 ?_ ?_
            · rw [upd_ne (Ne.symm hyl), upd_same, List.map_set]
              rfl
            · intro i p' ln' _ hi
              obtain ⟨d', e'⟩ := h4 p' ln' (List.mem_of_getElem? hi)
              exact ⟨d', out _ _ (s3 _ _ e') (ne_of e' h2 (by intro z; cases z))⟩
            · intro p' ln' z
              cases z
              refine ⟨⟨dp, out _ _ hp2 npl⟩, fun i ln' _ hi => ?_⟩
              obtain ⟨d', e'⟩ := h4 p ln' (List.mem_of_getElem? hi)
              rw [hpH] at e'
              cases e'

/-! ### drop_line -/
theorem scD2 : FnScope ["net", "numbers", "number"] ["net", "numbers"] (defScope sD2) := ⟨rfl, rfl, rfl, by decide +kernel, rfl, by decide +kernel, by decide +kernel⟩
theorem ok_d2 (T : Txt K mg CN CL CT) (F : FunAt K mg "drop_line" sD2 ["net", "numbers"]) (DH : Def P w K mg base "has_line" 1 ["net", "number"] (spHas CN CL)) : Def P w K mg base "drop_line" 5 ["net", "numbers"] (spDeed CN CL 2) := by
  refine def_mk F scD2 (fun vs H Q E h => ?_) (fun f cdv A outer s H vs Q E hr h => ?_)
  · obtain ⟨x, l, q, n, args, c, rfl, _⟩ := h
    rfl
  · have hr1 : Room 1 _ := hr.mono (by decide)
    refine ⟨_, pss_cons (ps_set (i := 2) scD2.nd rfl (Or.inl rfl) (pe_ix ix_list (pv 1) pe_int (fun _ _ => rfl)))
      (pss_cons (ps_if (pt_not (pt_val (pe_def DH hr1 rfl (pa_cons (pv 0) (pa_cons (pv 2) pa_nil))))) (pss_one (ps_ret (pe_lst (pa_cons (pe_un un_neg pe_int) pa_nil)))) pss_nil)
      (pss_cons (ps_asg pe_non (pg_sub (pe_fld (pv 0) rfl) (pv 2) set_list))
      (pss_one (ps_ret (pe_lst (pa_cons pe_int pa_nil)))))), ?_⟩
    obtain ⟨x, l, qa, n, args, c, rfl, hN, ho, hq, hc, q⟩ := h
    obtain ⟨k, rfl, rfl⟩ := call2 hc
    obtain ⟨dx, cs, h1, h2, h3, h4, h5⟩ := hN.ex
    have hl24 : cs.length = 24 := by
      rw [← ho.len, h3, List.length_map]
    refine ⟨_, rfl, qa, _, _, _, rfl, rfl, SqL.of hq, atI_nat (j := 0) (v := iv k) rfl, ?_⟩
    refine ⟨_, rfl, _, rfl, x, l, n, k, rfl, hN, ho, _, rfl, ?_⟩
    cases c1 : n.line k with
    | none =>
      have e : Km361.act n (.drop k) = (n, Km361.only (-2)) := if_pos (by rw [c1]; rfl)
      refine if_true_of rfl ⟨_, rfl, (by show 1 ≤ sizeLine; decide), fun y hy => ?_⟩
      exact deed_same (p := 2) hN (Same.refl H) hy (by rw [e]) (by rw [e]; rfl) q
    | some ln =>
      have hk : k < 24 := by
        cases Nat.lt_or_ge k 24 with
        | inl z => exact z
        | inr z => rw [line_getD ho z] at c1; cases c1
      have e : Km361.act n (.drop k) = (⟨n.lines.set k none⟩, Km361.only 0) := if_neg (by rw [c1]; exact Bool.false_ne_true)
      refine if_false_of rfl ?_
      refine ⟨_, rfl, x, CN, dx, _, _, rfl, h1, T.cN, T.nLines, nF_lines l, _, rfl, l, _, _, k, rfl, rfl, h2, ixN_iv (by rw [List.length_map]; omega), ?_⟩
      refine ⟨(by show 1 ≤ sizeLine; decide), fun y hy => ?_⟩
      have nxl : x ≠ l := ne_of h1 h2 (by intro z; cases z)
      have hyl : y ≠ l := fun z => by rw [z, upd_same] at hy; cases hy
      have hyH : H y = none := by rw [upd_ne hyl] at hy; exact hy
      have out : ∀ b' o, H b' = some o → b' ≠ l → upd (upd H l (.lst ((cs.map cellV).set k .non))) y (.lst [.int 0]) b' = some o := fun b' o e' hb => by
        rw [upd_ne (ne_of_none e' hyH), upd_ne hb]
        exact e'
      refine q _ y ?_ hyH hyl ?_ fun b' o e' hb _ => out b' o e' hb
      · rw [e]
        exact upd_same
      · rw [e]
        refine NetAt.put (c := none) (k := k) (out _ _ h1 nxl) ?_ h3 h5 ?_ ?_
        · rw [upd_ne (Ne.symm hyl), upd_same, List.map_set]
          rfl
        · intro i p' ln' _ hi
          obtain ⟨d', e'⟩ := h4 p' ln' (List.mem_of_getElem? hi)
          exact ⟨d', out _ _ e' (ne_of e' h2 (by intro z; cases z))⟩
        · intro p' ln' z
          cases z

/-! ### widen_line -/
theorem scD3 : FnScope ["net", "numbers", "number", "most"] ["net", "numbers"] (defScope sD3) := ⟨rfl, rfl, rfl, by decide +kernel, rfl, by decide +kernel, by decide +kernel⟩
theorem ok_d3 (T : Txt K mg CN CL CT) (F : FunAt K mg "widen_line" sD3 ["net", "numbers"]) (DH : Def P w K mg base "has_line" 1 ["net", "number"] (spHas CN CL)) : Def P w K mg base "widen_line" 5 ["net", "numbers"] (spDeed CN CL 3) := by
  refine def_mk F scD3 (fun vs H Q E h => ?_) (fun f cdv A outer s H vs Q E hr h => ?_)
  · obtain ⟨x, l, q, n, args, c, rfl, _⟩ := h
    rfl
  · have hr1 : Room 1 _ := hr.mono (by decide)
    refine ⟨_, pss_cons (ps_asg (pv 1) (pg_unl rfl (pgs_cons (pg_name (i := 2) scD3.nd rfl (Or.inl rfl)) (pgs_cons (pg_name (i := 3) scD3.nd rfl (Or.inl rfl)) pgs_nil))))
      (pss_cons (ps_if (pt_cmpR op_gt (pv 3) (pe_num rfl T.much) (nomark _)) (pss_one (ps_ret (pe_lst (pa_cons (pe_un un_neg pe_int) pa_nil)))) pss_nil)
      (pss_cons (ps_if (pt_not (pt_val (pe_def DH hr1 rfl (pa_cons (pv 0) (pa_cons (pv 2) pa_nil))))) (pss_one (ps_ret (pe_lst (pa_cons (pe_un un_neg pe_int) pa_nil)))) pss_nil)
      (pss_cons (ps_fld (pe_ix ix_list (pe_fld (pv 0) rfl) (pv 2) (fun _ _ => rfl)) (pv 3) rfl)
      (pss_one (ps_ret (pe_lst (pa_cons pe_int pa_nil))))))), ?_⟩
    obtain ⟨x, l, qa, n, args, c, rfl, hN, ho, hq, hc, q⟩ := h
    obtain ⟨k, m, rfl, rfl⟩ := call3 hc
    obtain ⟨dx, cs, h1, h2, h3, h4, h5⟩ := hN.ex
    have hl24 : cs.length = 24 := by
      rw [← ho.len, h3, List.length_map]
    refine ⟨_, rfl, qa, _, rfl, SqL.of hq, rfl, _, _, rfl, _, _, rfl, rfl, ?_⟩
    refine ⟨_, rfl, _, _, rfl, rfl, _, rfl, ?_⟩
    by_cases c2 : 1000 < m
    · have e : Km361.act n (.wide k m) = (n, Km361.only (-22)) := if_pos c2
      refine if_true_of (decide_eq_true (by omega)) ⟨_, rfl, (by show 1 ≤ sizeLine; decide), fun y hy => ?_⟩
      exact deed_same (p := 3) hN (Same.refl H) hy (by rw [e]) (by rw [e]; rfl) q
    · refine if_false_of (decide_eq_false (by omega)) ?_
      refine ⟨_, rfl, _, rfl, x, l, n, k, rfl, hN, ho, _, rfl, ?_⟩
      cases c1 : n.line k with
      | none =>
        have e : Km361.act n (.wide k m) = (n, Km361.only (-2)) := by
          show (if Km361.MOST < m then (n, Km361.only (-22)) else match n.line k with
            | none => (n, Km361.only (-2))
            | some l => (⟨n.lines.set k (some ⟨l.a, l.b, m⟩)⟩, Km361.only 0)) = _
          rw [if_neg (show ¬ Km361.MOST < m from c2), c1]
        refine if_true_of rfl ⟨_, rfl, (by show 1 ≤ sizeLine; decide), fun y hy => ?_⟩
        exact deed_same (p := 3) hN (Same.refl H) hy (by rw [e]) (by rw [e]; rfl) q
      | some ln =>
        have hk : k < 24 := by
          cases Nat.lt_or_ge k 24 with
          | inl z => exact z
          | inr z => rw [line_getD ho z] at c1; cases c1
        have e : Km361.act n (.wide k m) = (⟨n.lines.set k (some ⟨ln.a, ln.b, m⟩)⟩, Km361.only 0) := by
          show (if Km361.MOST < m then (n, Km361.only (-22)) else match n.line k with
            | none => (n, Km361.only (-2))
            | some l => (⟨n.lines.set k (some ⟨l.a, l.b, m⟩)⟩, Km361.only 0)) = _
          rw [if_neg (show ¬ Km361.MOST < m from c2), c1]
        have hck : cs[k]? = some cs[k] := List.getElem?_eq_getElem (by omega)
        have hcn := net_at (CN := CN) (CL := CL) (H := H) (x := x) (l := l) h3 hck
        rw [c1] at hcn
        obtain ⟨p, ln0, ec⟩ : ∃ p ln0, cs[k] = some (p, ln0) := by
          cases z : cs[k] with
          | none => rw [z] at hcn; cases hcn
          | some w => exact ⟨w.1, w.2, rfl⟩
        rw [ec] at hck hcn
        obtain rfl : ln = ln0 := Option.some.inj hcn
        obtain ⟨dp, hp⟩ := h4 p ln (List.mem_of_getElem? hck)
        refine if_false_of rfl ?_
        refine ⟨_, rfl, _, rfl, x, CN, dx, _, _, rfl, h1, T.cN, T.nLines, nF_lines l, _, rfl, l, _, _, _, rfl, rfl, SqL.of h2, atI_iv (by rw [List.getElem?_map, hck]; rfl), ?_⟩
        refine ⟨p, CL, dp, _, rfl, hp, T.cL, T.nMost, (by show 3 < 1000; decide), ?_⟩
        rw [lnF_put]
        refine ⟨(by show 1 ≤ sizeLine; decide), fun y hy => ?_⟩
        have npl : p ≠ l := ne_of hp h2 (by intro z; cases z)
        have npx : x ≠ p := fun z => by
          rw [z, hp] at h1
          have h1' := HO.ins.inj (Option.some.inj h1)
          have := congrArg List.length h1'.2.2
          exact absurd (show (3 : Nat) = 1 from this) (by decide)
        have hyp : y ≠ p := fun z => by rw [z, upd_same] at hy; cases hy
        have hyH : H y = none := by rw [upd_ne hyp] at hy; exact hy
        have hyl : y ≠ l := fun z => by rw [z, h2] at hyH; cases hyH
        have out : ∀ b' o, H b' = some o → b' ≠ p → upd (upd H p (.ins CL dp (lnF ⟨ln.a, ln.b, m⟩))) y (.lst [.int 0]) b' = some o := fun b' o e' hb => by
          rw [upd_ne (ne_of_none e' hyH), upd_ne hb]
          exact e'
        refine q _ y ?_ hyH hyl ?_ fun b' o e' hb hi => out b' o e' fun z => ?_
        · rw [e]
          exact upd_same
        · rw [e]
          refine NetAt.put (c := some (p, ⟨ln.a, ln.b, m⟩)) (k := k) (out _ _ h1 npx) ?_ h3 h5 ?_ ?_
          · have es : (cs.set k (some (p, ⟨ln.a, ln.b, m⟩))).map cellV = cs.map cellV := by
              rw [List.map_set]
              apply List.ext_getElem?
              intro i
              rw [List.getElem?_set]
              by_cases z : k = i
              · subst z
                rw [if_pos rfl, List.getElem?_map, hck]
                rw [if_pos (by rw [List.length_map]; omega)]
                rfl
              · rw [if_neg z]
            rw [es]
            exact out _ _ h2 (Ne.symm npl)
          · intro i p' ln' hik hi
            obtain ⟨d', e'⟩ := h4 p' ln' (List.mem_of_getElem? hi)
            refine ⟨d', out _ _ e' fun z => ?_⟩
            subst z
            exact hik (h5 i k _ _ _ hi hck)
          · intro p' ln' z
            cases z
            refine ⟨⟨dp, ?_⟩, fun i ln' hik hi => hik (h5 i k _ _ _ hi hck)⟩
            rw [upd_ne (Ne.symm hyp)]
            exact upd_same
        · subst z
          rw [hp] at e'
          exact hi _ _ _ (Option.some.inj e').symm
end
end Tc

namespace Tc
open PySem PySem.Spec PyProof.Rows L2
section
variable {P : Program} {w : World} {K : PySem.W.Frag} {mg : Str → Option Value} {base : Heap} {CN CL CT : Addr}
theorem nums_iv (l : List Nat) : (Km361Neutral.nums l).map V.int = ivs l := by
  unfold Km361Neutral.nums ivs
  rw [List.map_map]
  rfl

/-! ### between -/
theorem scD4 : FnScope ["net", "numbers", "one", "other", "edges", "cut"] ["net", "numbers"] (defScope sD4) := ⟨rfl, rfl, rfl, by decide +kernel, rfl, by decide +kernel, by decide +kernel⟩
theorem ok_d4 (T : Txt K mg CN CL CT) (F : FunAt K mg "between" sD4 ["net", "numbers"]) (DT : Def P w K mg base "are_two_places" 1 ["one", "other"] spTwo) (DE : Def P w K mg base "edges_of" 4 ["net"] (spEdges CN CL))
    (DC : Def P w K mg base "cut_of" 2 ["edges", "one", "other"] spCut) : Def P w K mg base "between" 5 ["net", "numbers"] (spDeed CN CL 4) := by
  refine def_mk F scD4 (fun vs H Q E h => ?_) (fun f cdv A outer s H vs Q E hr h => ?_)
  · obtain ⟨x, l, q, n, args, c, rfl, _⟩ := h
    rfl
  · have hr1 : Room 1 _ := hr.mono (by decide)
    have hr2 : Room 2 _ := hr.mono (by decide)
    refine ⟨_, pss_cons (ps_asg (pv 1) (pg_unl rfl (pgs_cons (pg_name (i := 2) scD4.nd rfl (Or.inl rfl)) (pgs_cons (pg_name (i := 3) scD4.nd rfl (Or.inl rfl)) pgs_nil))))
      (pss_cons (ps_if (pt_not (pt_val (pe_def DT hr1 rfl (pa_cons (pv 2) (pa_cons (pv 3) pa_nil))))) (pss_one (ps_ret (pe_lst (pa_cons (pe_un un_neg pe_int) pa_nil)))) pss_nil)
      (pss_cons (ps_set (i := 4) scD4.nd rfl (Or.inl rfl) (pe_def DE hr rfl (pa_cons (pv 0) pa_nil)))
      (pss_cons (ps_set (i := 5) scD4.nd rfl (Or.inl rfl) (pe_def DC hr2 rfl (pa_cons (pv 4) (pa_cons (pv 2) (pa_cons (pv 3) pa_nil)))))
      (pss_one (ps_ret (pe_lst (pa_cons (pe_ix ix_list (pv 4) (pv 5) (fun _ _ => rfl)) (pa_cons (pv 5) pa_nil)))))))), ?_⟩
    obtain ⟨x, l, qa, n, args, c, rfl, hN, ho, hq, hc, q⟩ := h
    obtain ⟨a, b, rfl, rfl⟩ := call4 hc
    refine ⟨_, rfl, qa, _, rfl, SqL.of hq, rfl, _, _, rfl, _, _, rfl, rfl, ?_⟩
    refine ⟨_, rfl, _, rfl, a, b, rfl, _, rfl, ?_⟩
    cases c1 : Km361.okPair a b with
    | false =>
      have e : (Km361.act n (.between a b)).2 = Km361.only (-22) := if_pos c1
      refine if_true_of rfl ⟨_, rfl, (by show 1 ≤ sizeLine; decide), fun y hy => ?_⟩
      exact deed_same (p := 4) hN (Same.refl H) hy rfl (by rw [e]; rfl) q
    | true =>
      have e : (Km361.act n (.between a b)).2 = ⟨((n.between a b : Nat) : Int), [n.side a b]⟩ := if_neg (by rw [c1]; exact Bool.noConfusion)
      obtain ⟨ha, hb, hab⟩ := okPair_true c1
      refine if_false_of rfl ?_
      refine ⟨_, rfl, x, l, n, rfl, hN, fun pe hpe => ?_⟩
      have s1 : Same H (upd H pe (.lst (edgesV n.edge))) := same_upd hpe
      refine ⟨_, rfl, _, rfl, _, rfl, pe, n.edge, a, b, rfl, upd_same, ha, hb, hab, fun H2 s2 => ?_⟩
      refine ⟨_, rfl, _, rfl, pe, _, _, _, rfl, rfl, SqL.of (s2 _ _ upd_same), atI_iv (edgesV_at n.edge (cutF_lt n.edge ha)), _, rfl, (by show 2 ≤ sizeLine; decide), fun y hy => ?_⟩
      refine deed_same (p := 4) hN (s1.trans s2) hy rfl ?_ q
      rw [e]
      show _ = [V.int ((n.edge (n.side a b) : Nat) : Int), V.int ((n.side a b : Nat) : Int)]
      rw [side_eq]
      rfl

/-! ### tree_told -/
theorem scD5 : FnScope ["net", "numbers", "tree"] ["net", "numbers"] (defScope sD5) := ⟨rfl, rfl, rfl, by decide +kernel, rfl, by decide +kernel, by decide +kernel⟩
theorem ok_d5 (T : Txt K mg CN CL CT) (F : FunAt K mg "tree_told" sD5 ["net", "numbers"]) (DE : Def P w K mg base "edges_of" 4 ["net"] (spEdges CN CL)) (DT : Def P w K mg base "tree_of" 4 ["edges"] (spTree CT)) :
    Def P w K mg base "tree_told" 5 ["net", "numbers"] (spDeed CN CL 5) := by
  refine def_mk F scD5 (fun vs H Q E h => ?_) (fun f cdv A outer s H vs Q E hr h => ?_)
  · obtain ⟨x, l, q, n, args, c, rfl, _⟩ := h
    rfl
  · refine ⟨_, pss_cons (ps_set (i := 2) scD5.nd rfl (Or.inl rfl) (pe_def DT hr rfl (pa_cons (pe_def DE hr rfl (pa_cons (pv 0) pa_nil)) pa_nil)))
      (pss_one (ps_ret (pe_op op_cat (pe_op op_cat (pe_lst (pa_cons pe_int pa_nil)) (pe_fld (pv 2) rfl)) (pe_fld (pv 2) rfl)))), ?_⟩
    obtain ⟨x, l, qa, n, args, c, rfl, hN, ho, hq, hc, q⟩ := h
    obtain ⟨rfl, rfl⟩ := call5 hc
    refine ⟨_, rfl, x, l, n, rfl, hN, fun pe hpe => ?_⟩
    have s1 : Same H (upd H pe (.lst (edgesV n.edge))) := same_upd hpe
    refine ⟨pe, n.edge, rfl, upd_same, edge_le ho, fun H2 xt la lm hT s2 => ?_⟩
    have ht := treeF_ok (f := n.edge) (edge_le ho) 7 (Nat.le_refl _)
    have s12 := s1.trans s2
    refine ⟨(by show 1 ≤ sizeLine; decide), fun p1 hp1 => ?_⟩
    have s3 := s12.trans (same_upd (o := .lst [.int 0]) hp1)
    obtain ⟨dt, hx, hla, hlm, hne⟩ := hT.same (same_upd (o := .lst [.int 0]) hp1)
    refine ⟨_, rfl, xt, CT, dt, _, _, rfl, hx, T.cT, T.nBelow, tF_below la lm, p1, la, _, _, rfl, rfl, upd_same, hla, ?_, fun p2 hp2 => ?_⟩
    · rw [ivs_len, ht.la]
      decide
    · have s4 := s3.trans (same_upd (o := .lst ([.int 0] ++ ivs (treeF n.edge 7).above)) hp2)
      refine ⟨_, rfl, xt, CT, dt, _, _, rfl, same_upd hp2 _ _ hx, T.cT, T.nWeights, tF_weights la lm, p2, lm, _, _, rfl, rfl, upd_same, same_upd hp2 _ _ hlm, ?_, fun y hy => ?_⟩
      · rw [ivs_len, List.length_append, ivs_len, ht.la, ht.lm]
        decide
      · refine deed_same (p := 5) hN s4 hy rfl ?_ q
        show _ = V.int 0 :: (Km361Neutral.nums (n.tree.above ++ n.tree.much)).map V.int
        rw [nums_iv, tree_eq, ← ivs_append, List.append_assoc]
        rfl

/-! ### told -/
theorem scD6 : FnScope ["net", "numbers", "one", "other"] ["net", "numbers"] (defScope sD6) := ⟨rfl, rfl, rfl, by decide +kernel, rfl, by decide +kernel, by decide +kernel⟩
theorem ok_d6 (T : Txt K mg CN CL CT) (F : FunAt K mg "told" sD6 ["net", "numbers"]) (DW : Def P w K mg base "are_two_places" 1 ["one", "other"] spTwo) (DE : Def P w K mg base "edges_of" 4 ["net"] (spEdges CN CL))
    (DT : Def P w K mg base "tree_of" 4 ["edges"] (spTree CT)) (DL : Def P w K mg base "least_between" 1 ["tree", "one", "other"] (spLB CT)) : Def P w K mg base "told" 5 ["net", "numbers"] (spDeed CN CL 6) := by
  refine def_mk F scD6 (fun vs H Q E h => ?_) (fun f cdv A outer s H vs Q E hr h => ?_)
  · obtain ⟨x, l, q, n, args, c, rfl, _⟩ := h
    rfl
  · have hr1 : Room 1 _ := hr.mono (by decide)
    refine ⟨_, pss_cons (ps_asg (pv 1) (pg_unl rfl (pgs_cons (pg_name (i := 2) scD6.nd rfl (Or.inl rfl)) (pgs_cons (pg_name (i := 3) scD6.nd rfl (Or.inl rfl)) pgs_nil))))
      (pss_cons (ps_if (pt_not (pt_val (pe_def DW hr1 rfl (pa_cons (pv 2) (pa_cons (pv 3) pa_nil))))) (pss_one (ps_ret (pe_lst (pa_cons (pe_un un_neg pe_int) pa_nil)))) pss_nil)
      (pss_one (ps_ret (pe_lst (pa_cons (pe_def DL hr1 rfl (pa_cons (pe_def DT hr rfl (pa_cons (pe_def DE hr rfl (pa_cons (pv 0) pa_nil)) pa_nil)) (pa_cons (pv 2) (pa_cons (pv 3) pa_nil)))) pa_nil))))), ?_⟩
    obtain ⟨x, l, qa, n, args, c, rfl, hN, ho, hq, hc, q⟩ := h
    obtain ⟨a, b, rfl, rfl⟩ := call6 hc
    refine ⟨_, rfl, qa, _, rfl, SqL.of hq, rfl, _, _, rfl, _, _, rfl, rfl, ?_⟩
    refine ⟨_, rfl, _, rfl, a, b, rfl, _, rfl, ?_⟩
    cases c1 : Km361.okPair a b with
    | false =>
      have e : (Km361.act n (.told a b)).2 = Km361.only (-22) := if_pos c1
      refine if_true_of rfl ⟨_, rfl, (by show 1 ≤ sizeLine; decide), fun y hy => ?_⟩
      exact deed_same (p := 6) hN (Same.refl H) hy rfl (by rw [e]; rfl) q
    | true =>
      have e : (Km361.act n (.told a b)).2 = Km361.only ((n.tree.least a b : Nat) : Int) := if_neg (by rw [c1]; exact Bool.noConfusion)
      obtain ⟨ha, hb, hab⟩ := okPair_true c1
      refine if_false_of rfl ?_
      refine ⟨_, rfl, x, l, n, rfl, hN, fun pe hpe => ?_⟩
      have s1 : Same H (upd H pe (.lst (edgesV n.edge))) := same_upd hpe
      refine ⟨pe, n.edge, rfl, upd_same, edge_le ho, fun H2 xt la lm hT s2 => ?_⟩
      have ht := treeF_ok (f := n.edge) (edge_le ho) 7 (Nat.le_refl _)
      refine ⟨_, rfl, _, rfl, xt, la, lm, treeF n.edge 7, a, b, rfl, hT, ht, ha, hb, hab, fun H3 s3 => ⟨(by show 1 ≤ sizeLine; decide), fun y hy => ?_⟩⟩
      refine deed_same (p := 6) hN ((s1.trans s2).trans s3) hy rfl ?_ q
      rw [e, said_only, tree_eq]
      rfl

/-! ### edge -/
theorem scD7 : FnScope ["net", "numbers", "side"] ["net", "numbers"] (defScope sD7) := ⟨rfl, rfl, rfl, by decide +kernel, rfl, by decide +kernel, by decide +kernel⟩
theorem ok_d7 (T : Txt K mg CN CL CT) (F : FunAt K mg "edge" sD7 ["net", "numbers"]) (DE : Def P w K mg base "edge_of" 3 ["net", "side"] (spEdge CN CL)) : Def P w K mg base "edge" 5 ["net", "numbers"] (spDeed CN CL 7) := by
  refine def_mk F scD7 (fun vs H Q E h => ?_) (fun f cdv A outer s H vs Q E hr h => ?_)
  · obtain ⟨x, l, q, n, args, c, rfl, _⟩ := h
    rfl
  · have hr3 : Room 3 _ := hr.mono (by decide)
    refine ⟨_, pss_cons (ps_set (i := 2) scD7.nd rfl (Or.inl rfl) (pe_ix ix_list (pv 1) pe_int (fun _ _ => rfl)))
      (pss_cons (ps_if (pt_cmpR op_ge (pv 2) (pe_num rfl T.sides) (nomark _)) (pss_one (ps_ret (pe_lst (pa_cons (pe_un un_neg pe_int) pa_nil)))) pss_nil)
      (pss_one (ps_ret (pe_lst (pa_cons (pe_def DE hr3 rfl (pa_cons (pv 0) (pa_cons (pv 2) pa_nil))) pa_nil))))), ?_⟩
    obtain ⟨x, l, qa, n, args, c, rfl, hN, ho, hq, hc, q⟩ := h
    obtain ⟨k, rfl, rfl⟩ := call7 hc
    refine ⟨_, rfl, qa, _, _, _, rfl, rfl, SqL.of hq, atI_nat (j := 0) (v := iv k) rfl, ?_⟩
    refine ⟨_, rfl, _, _, rfl, rfl, _, rfl, ?_⟩
    by_cases c1 : 256 ≤ k
    · have e : (Km361.act n (.edge k)).2 = Km361.only (-22) := if_pos c1
      refine if_true_of (decide_eq_true (by omega)) ⟨_, rfl, (by show 1 ≤ sizeLine; decide), fun y hy => ?_⟩
      exact deed_same (p := 7) hN (Same.refl H) hy rfl (by rw [e]; rfl) q
    · have e : (Km361.act n (.edge k)).2 = Km361.only ((n.edge k : Nat) : Int) := if_neg c1
      refine if_false_of (decide_eq_false (by omega)) ?_
      refine ⟨_, rfl, _, rfl, x, l, n, k, rfl, hN, (by show 1 ≤ sizeLine; decide), fun y hy => ?_⟩
      exact deed_same (p := 7) hN (Same.refl H) hy rfl (by rw [e]; rfl) q

/-! ### weakest -/
theorem scD8 : FnScope ["net", "numbers", "edges", "side"] ["net", "numbers"] (defScope sD8) := ⟨rfl, rfl, rfl, by decide +kernel, rfl, by decide +kernel, by decide +kernel⟩
theorem ok_d8 (T : Txt K mg CN CL CT) (F : FunAt K mg "weakest" sD8 ["net", "numbers"]) (DE : Def P w K mg base "edges_of" 4 ["net"] (spEdges CN CL)) (DW : Def P w K mg base "weakest_side" 2 ["edges"] spWeak) :
    Def P w K mg base "weakest" 5 ["net", "numbers"] (spDeed CN CL 8) := by
  refine def_mk F scD8 (fun vs H Q E h => ?_) (fun f cdv A outer s H vs Q E hr h => ?_)
  · obtain ⟨x, l, q, n, args, c, rfl, _⟩ := h
    rfl
  · have hr2 : Room 2 _ := hr.mono (by decide)
    refine ⟨_, pss_cons (ps_set (i := 2) scD8.nd rfl (Or.inl rfl) (pe_def DE hr rfl (pa_cons (pv 0) pa_nil)))
      (pss_cons (ps_set (i := 3) scD8.nd rfl (Or.inl rfl) (pe_def DW hr2 rfl (pa_cons (pv 2) pa_nil)))
      (pss_one (ps_ret (pe_lst (pa_cons (pe_ix ix_list (pv 2) (pv 3) (fun _ _ => rfl)) (pa_cons (pv 3) pa_nil)))))), ?_⟩
    obtain ⟨x, l, qa, n, args, c, rfl, hN, ho, hq, hc, q⟩ := h
    obtain ⟨rfl, rfl⟩ := call8 hc
    refine ⟨_, rfl, x, l, n, rfl, hN, fun pe hpe => ?_⟩
    have s1 : Same H (upd H pe (.lst (edgesV n.edge))) := same_upd hpe
    refine ⟨_, rfl, pe, n.edge, rfl, upd_same, fun H2 s2 => ?_⟩
    refine ⟨_, rfl, _, rfl, pe, _, _, _, rfl, rfl, SqL.of (s2 _ _ upd_same), atI_iv (edgesV_at n.edge (weakF_lt n.edge)), _, rfl, (by show 2 ≤ sizeLine; decide), fun y hy => ?_⟩
    refine deed_same (p := 8) hN (s1.trans s2) hy rfl ?_ q
    show _ = [V.int ((n.edge n.weakest : Nat) : Int), V.int ((n.weakest : Nat) : Int)]
    rw [weak_eq]
    rfl
end
end Tc

namespace Tc
open PySem PySem.Spec PyProof.Rows L2

/-! ### d[k] of a dict of the module whose keys are whole numbers -/
def KGet (K : PySem.W.Frag) (a : Addr) (i : Int) (v : V) : Prop :=
  ∃ (es : Array DictEntry) (n : Nat) (u : Value), K.lookup a = some ⟨.type "dict", none, .dict es n, #[]⟩ ∧ (∀ e ∈ es.toList, ∃ k t, e.key = .int k t ∧ e.hash = hashInt k) ∧ findBy Value.isInt es i = some u ∧ RelV v u
def rIxK (K : PySem.W.Frag) : R2 := fun x y H Q => ∃ p i v, x = .ref p ∧ y = .int i ∧ KGet K p i v ∧ Q v H
section
variable {X : Cx}
theorem ix_kint : IxR X (rIxK X.K) := by
  intro value slice pins s σ H x y v u Q I rx ry h hs
  obtain ⟨p, z, r, rfl, rfl, ⟨es, n, u0, hl, hk, e, ru⟩, q⟩ := h
  obtain rfl : v = Value.ref p := rx
  obtain ⟨t, rfl⟩ := ry
  have hm : s.heap.MapOf (intKind X.prog X.w) p (fun k => findBy Value.isInt es k) :=
    ⟨_, es, n, I.kIn _ _ hl, ⟨rfl, rfl, rfl⟩, rfl, fun e he => by
      obtain ⟨k, t, e1, e2⟩ := hk e (Array.mem_toList_iff.mpr he)
      exact ⟨k, by rw [e1]; exact intKind_is X.prog X.w k t, e2⟩, fun _ => rfl⟩
  exact tail_any hm.typeIs slot_dict_getitem.lookup (wpAny_getItem_of (intKind_is X.prog X.w z t) hm e ⟨r, H, I.tok _, ru, q⟩) hs

/-! ### a call of a local name that holds one of some defs -/
def tCallH (P : Program) (w : World) (K : PySem.W.Frag) (mg : Str → Option Value) (base : Heap) (k i : Nat) (t : TA) : TE := fun σ H Q => ∃ f sp, σ[i]? = some (some (.ref f)) ∧ Held P w K mg base k f sp ∧ t σ H fun vs H1 => sp vs H1 Q (fun _ _ _ => False)
theorem pe_callH {k i : Nat} {x : Str} {p pos : Pos} {e : Expr} {es : List Expr} {t : TA} (hr : Room k X.A) (hN : X.N[i]? = some x) (hv : Vis X.env.scope x) (ha : PA X (e :: es) t)
    (hdb : (x == ("__debug__" : Str)) = false := by decide) (hcd : (x == ("__classdict__" : Str)) = false := by decide)
    (he : starEach (e :: es) X.env = (false, eval e X.env) :: starEach es X.env := by rfl) (hpl : (backTo pos (starEach es X.env)).any (·.1) = false := by rfl) : PE X (.Call (.Name x p) (e :: es) [] pos) (tCallH X.prog X.w X.K X.mg X.base k i t) := by
  refine ⟨fun pins s σ H Q I h => ?_⟩
  obtain ⟨f, sp, hs, hS, ht⟩ := h
  obtain ⟨fd, ps, F, hk, hb⟩ := hS.ex
  refine (pe_callL (i := i) (f := f) (sp := sp) (dvs := []) (E := fun _ _ _ => False) F hr hN hv hk hb .nil (fun _ _ _ _ _ _ _ z => z.elim) ha hdb hcd he hpl).run pins s σ H Q I ⟨hs, ?_⟩
  have e0 : (fun (vs : List V) (H1 : Hp) => sp (vs ++ []) H1 Q (fun _ _ _ => False)) = fun vs H1 => sp vs H1 Q (fun _ _ _ => False) := by
    funext vs H1
    rw [List.append_nil]
  show t σ H (fun vs H1 => sp (vs ++ []) H1 Q (fun _ _ _ => False))
  rw [e0]
  exact ht
end

/-! ### lists that stand -/
/-- the list at a is none that stands at l, or it can't be changed at all -/
def Stays (K : PySem.W.Frag) (a l : Addr) (xs : List V) : Prop := a ≠ l ∨ ∀ H, SqL K H a xs
theorem stays_of {K : PySem.W.Frag} {H : Hp} {a l : Addr} {xs : List V} (h : SqL K H a xs) (hl : H l = none) : Stays K a l xs := by
  rcases h with (h | ⟨o, h⟩) | h
  · exact .inl (ne_of_none h hl)
  · exact .inl (ne_of_none h hl)
  · exact .inr fun H' => .inr h
theorem stays_sq {K : PySem.W.Frag} {H H' : Hp} {a l : Addr} {xs : List V} (s : Stays K a l xs) (h : SqL K H a xs) (k : Keeps l H H') : SqL K H' a xs := by
  rcases s with s | s
  · rcases h with (h | ⟨o, h⟩) | h
    · exact .inl (.inl (k _ _ h s (by intro C dx fs z; cases z)))
    · exact .inl (.inr ⟨o, k _ _ h s (by intro C dx fs z; cases z)⟩)
    · exact .inr h
  · exact s H'
theorem keeps_upd {l : Addr} {H : Hp} {o : HO} : Keeps l H (upd H l o) := fun b u e hb _ => by
  rw [upd_ne hb]
  exact e
theorem NetAt.other {CN CL : Addr} {H : Hp} {x l b : Addr} {n : Km361.Net} {xs : List V} {o : HO} (h : NetAt CN CL H x l n) (hb : H b = some (.lst xs)) (hne : b ≠ l) : NetAt CN CL (upd H b o) x l n := by
  obtain ⟨dx, cs, h1, h2, h3, h4, h5⟩ := h.ex
  refine ⟨dx, cs, ?_, ?_, h3, fun p ln m => ?_, h5⟩
  · rw [upd_ne (ne_of h1 hb (by intro z; cases z))]
    exact h1
  · rw [upd_ne (Ne.symm hne)]
    exact h2
  · obtain ⟨d, e⟩ := h4 p ln m
    refine ⟨d, ?_⟩
    rw [upd_ne (ne_of e hb (by intro z; cases z))]
    exact e
theorem fresh_at {CN CL : Addr} {H : Hp} {x l dx : Addr} (h1 : H x = some (.ins CN dx [("lines", .ref l)])) (h2 : H l = some (.lst (List.replicate 24 .non))) : NetAt CN CL H x l Km361.fresh := by
  refine ⟨dx, List.replicate 24 none, h1, ?_, ?_, fun p ln m => ?_, fun i j p a b e _ => ?_⟩
  · rw [List.map_replicate]
    exact h2
  · rw [List.map_replicate]
    rfl
  · cases List.eq_of_mem_replicate m
  · cases List.eq_of_mem_replicate (List.mem_of_getElem? e)

/-! ### the numbers of the calls -/
def numsV : List V := [.int 0, .int 3, .int 1, .int 2, .int 2, .int 0, .int 2, .int 1, .int 0]
theorem nums_at {p : Int} (h0 : 0 ≤ p) (h8 : p ≤ 8) : atI numsV p = some (iv (behind p)) := by
  have cs : p = 0 ∨ p = 1 ∨ p = 2 ∨ p = 3 ∨ p = 4 ∨ p = 5 ∨ p = 6 ∨ p = 7 ∨ p = 8 := by omega
  rcases cs with c | c | c | c | c | c | c | c | c <;> subst c <;> rfl
theorem cut_args {ns : List Int} {at_ : Nat} {p : Int} {args : List Nat} {r' : List Int} (h : ns.drop at_ = p :: (asInts args ++ r')) :
    cutV (ns.map V.int) (some ((at_ : Int) + 1)) (some ((at_ : Int) + 1 + ((args.length : Nat) : Int))) = ivs args := by
  have hl : (ns.drop at_).length = 1 + args.length + r'.length := by
    rw [h, List.length_cons, List.length_append, asInts_len]
    omega
  rw [List.length_drop] at hl
  have d1 : ns.drop (at_ + 1) = asInts args ++ r' := by
    rw [← List.drop_drop, h]
    rfl
  unfold cutV
  rw [List.length_map]
  have e1 : HT.sIx ns.length 0 (some ((at_ : Int) + 1)) = at_ + 1 := by
    have z := HT.sIx_nat ns.length 0 (at_ + 1)
    rw [show (((at_ + 1 : Nat)) : Int) = (at_ : Int) + 1 from rfl] at z
    rw [z]
    omega
  have e2 : HT.sIx ns.length ns.length (some ((at_ : Int) + 1 + ((args.length : Nat) : Int))) = at_ + 1 + args.length := by
    have z := HT.sIx_nat ns.length ns.length (at_ + 1 + args.length)
    rw [show (((at_ + 1 + args.length : Nat)) : Int) = (at_ : Int) + 1 + ((args.length : Nat) : Int) from rfl] at z
    rw [z]
    omega
  rw [e1, e2, ← List.map_drop, d1, List.map_append]
  have e3 : (asInts args).map V.int = ivs args := by
    unfold asInts ivs
    rw [List.map_map]
    rfl
  rw [e3, List.take_append_of_le_length (by rw [ivs_len]; omega), List.take_of_length_le (by rw [ivs_len]; omega)]
theorem Go.drop {ns : List Int} {i : Nat} {p : Int} {args : List Nat} {r' : List Int} (h : ns.drop i = p :: (asInts args ++ r')) : ns.drop (i + 1 + args.length) = r' := by
  have d1 : ns.drop (i + 1) = asInts args ++ r' := by
    rw [← List.drop_drop, h]
    rfl
  rw [← List.drop_drop, d1, List.drop_append_of_le_length (by rw [asInts_len]; omega), List.drop_of_length_le (by rw [asInts_len]; omega), List.nil_append]

/-! ### answers -/
def spAns (K : PySem.W.Frag) : Sp := fun vs H Q _ => ∃ (a : Addr) (ns : List Int), vs = [.ref a] ∧ SqL K H a (ns.map V.int) ∧ PyKm361.answers_asked ns = true ∧
  ∀ (H' : Hp) (p : Addr), H' p = some (.lst ((PyKm361.answers ns).map V.int)) → Q (.ref p) H'
/-- what the top has of the desk's two tables -/
structure Desk (P : Program) (w : World) (K : PySem.W.Frag) (mg : Str → Option Value) (base : Heap) (CN CL : Addr) : Prop where
  nums : ∃ aN, mg "NUMBERS" = some (.ref aN) ∧ ∀ H, SqT K H aN numsV
  deeds : ∃ aD, mg "DEEDS" = some (.ref aD) ∧ ∀ p : Int, 0 < p → p ≤ 8 → ∃ f, KGet K aD p (.ref f) ∧ Held P w K mg base 5 f (spDeed CN CL p)
section
variable {P : Program} {w : World} {K : PySem.W.Frag} {mg : Str → Option Value} {base : Heap} {CN CL CT : Addr}
theorem line_lt {n : Nat} (h : n ≤ 10000000) : n < sizeLine := Nat.lt_of_le_of_lt h (by rw [sizeLine_eq]; decide)
/-- what holds between two calls -/
structure Mid (K : PySem.W.Frag) (CN CL : Addr) (a fo : Addr) (ns : List Int) (i : Nat) (x l : Addr) (H : Hp) (n : Km361.Net) (s : Km361Neutral.S) (acc due : List Int) : Prop where
  le : i ≤ ns.length
  calls : SqL K H a (ns.map V.int)
  st1 : Stays K a fo (ns.map V.int)
  st2 : Stays K a l (ns.map V.int)
  found : H fo = some (.lst (acc.map V.int))
  net : NetAt CN CL H x l n
  ok : NetOk n
  ne : fo ≠ l
  st : s = some n ∨ s = none
  go : Go (ns.drop i) s due
  eq : acc ++ due = PyKm361.answers ns
theorem scAns : FnScope ["calls", "net", "found", "at", "number", "behind", "answer", "deed"] ["calls"] (defScope sAns) := ⟨rfl, rfl, rfl, by decide +kernel, rfl, by decide +kernel, by decide +kernel⟩
theorem ok_ans {fA : Addr} {fdA : FuncData} (T : Txt K mg CN CL CT) (D : Desk P w K mg base CN CL) (M : MakeAt P w K mg base CN ["self"] (spNet0 CN)) (F : Fun K "answers" "answers" sAns fA fdA) : FnOk P w K mg base CX0 6 fA fdA ["calls"] (spAns K) := by
  obtain ⟨aN, gN, hNums⟩ := D.nums
  obtain ⟨aD, gD, hDeeds⟩ := D.deeds
  refine F.ok scAns (fun vs H Q E h => ?_) (fun cdv A outer s H vs Q E hr h => ?_)
  · obtain ⟨a, ns, rfl, _⟩ := h
    rfl
  · have hr2 : Room 2 _ := hr.mono (by decide)
    refine ⟨_, pss_cons (ps_set (i := 1) scAns.nd rfl (Or.inl rfl) (pe_new0 M hr2 rfl T.gN))
      (pss_cons (ps_set (i := 2) scAns.nd rfl (Or.inl rfl) (pe_lst pa_nil))
      (pss_cons (ps_set (i := 3) scAns.nd rfl (Or.inl rfl) pe_int)
      (pss_cons (ps_while PassesOwn.never (pt_cmpR op_lt (pv 3) (pe_callB call_len rfl T.len boot_len (pa_cons (pv 0) pa_nil)) (nomark _))
        (pss_cons (ps_set (i := 4) scAns.nd rfl (Or.inl rfl) (pe_ix ix_list (pv 0) (pv 3) (fun _ _ => rfl)))
        (pss_cons (ps_set (i := 5) scAns.nd rfl (Or.inl rfl) (pe_op op_add (pe_op op_add (pv 3) pe_int) (pe_ix ix_tup (pe_glob (v := .ref aN) rfl gN rfl) (pv 4) (fun _ _ => rfl))))
        (pss_cons (ps_set (i := 6) scAns.nd rfl (Or.inl rfl) (pe_lst (pa_cons pe_int pa_nil)))
        (pss_cons (ps_if (pt_cmpR op_eq (pv 4) (pe_num rfl T.start) (nomark _))
          (pss_one (ps_set (i := 1) scAns.nd rfl (Or.inl rfl) (pe_new0 M hr2 rfl T.gN)))
          (pss_cons (ps_set (i := 7) scAns.nd rfl (Or.inl rfl) (pe_ix ix_kint (pe_glob (v := .ref aD) rfl gD rfl) (pv 4) (fun _ _ => rfl)))
            (pss_one (ps_set (i := 6) scAns.nd rfl (Or.inl rfl) (pe_callH (i := 7) hr rfl (Or.inl rfl) (pa_cons (pv 1) (pa_cons (pe_slice sl_list (pv 0) (po_some (pe_op op_add (pv 3) pe_int)) (po_some (pv 5))) pa_nil)))))))
        (pss_cons (ps_expr (pe_bm PySem.F.plainAttrs_list PySem.F.slot_list_append PySem.F.type_list_append mt_append (pv 2) (pa_cons (pe_callB call_len rfl T.len boot_len (pa_cons (pv 6) pa_nil)) pa_nil)))
        (pss_cons (ps_expr (pe_bm PySem.F.plainAttrs_list PySem.F.slot_list_extend PySem.F.type_list_extend mt_extend (pv 2) (pa_cons (pv 6) pa_nil)))
        (pss_one (ps_set (i := 3) scAns.nd rfl (Or.inl rfl) (pv 5))))))))))
      (pss_one (ps_ret (pv 2)))))), ?_⟩
    obtain ⟨a, ns, rfl, hS, hask, q⟩ := h
    obtain ⟨hgo, hshort⟩ := asked_go hask
    intro x dx nx nd nex
    refine ⟨x, dx, rfl, upd_same, fun H1 l e1 e2 e3 kp => ⟨rfl, ?_⟩⟩
    have s1 : Same H H1 := Same.made nx nd kp
    have hlH : H l = none := by
      cases e : H l with
      | none => rfl
      | some o =>
        have z : upd (upd H dx (.own x)) x (.ins CN dx []) l = some o := by
          rw [upd_ne (ne_of_none e nx), upd_ne (ne_of_none e nd)]
          exact e
        rw [e3] at z
        cases z
    refine ⟨Nat.zero_le _, fun fo hfo => ?_⟩
    have s2 : Same H1 (upd H1 fo (.lst [])) := same_upd hfo
    refine while_by (fun σ H' => ∃ (i : Nat) (x l : Addr) (n : Km361.Net) (s : Km361Neutral.S) (acc due : List Int) (v4 v5 v6 v7 : Option V), σ = [some (.ref a), some (.ref x), some (.ref fo), some (iv i), v4, v5, v6, v7] ∧ Mid K CN CL a fo ns i x l H' n s acc due)
      (fun σ _ => ns.length - slotN σ 3) ⟨0, x, l, Km361.fresh, none, [], PyKm361.answers ns, none, none, none, none, rfl, ?_⟩ ?_ ?_
    · refine ⟨Nat.zero_le _, (s1.trans s2).seq hS, stays_of (s1.seq hS) hfo, stays_of hS hlH, upd_same, ?_, fresh_ok, fun z => ?_, .inr rfl, hgo, rfl⟩
      · exact (fresh_at e1 e2).same s2
      · rw [z, e2] at hfo
        cases hfo
    · rintro σ H' ⟨i, x, l, n, s, acc, due, v4, v5, v6, v7, rfl, M'⟩
      refine ⟨_, rfl, _, rfl, _, _, rfl, .inl ⟨_, M'.calls, rfl⟩, _, _, rfl, rfl, _, rfl, ?_⟩
      rw [List.length_map]
      by_cases c : i < ns.length
      · refine if_true_of (decide_eq_true (Int.ofNat_lt.mpr c)) ?_
        -- the call's numbers
        have hd : ns.drop i = ns[i] :: ns.drop (i + 1) := List.drop_eq_getElem_cons c
        have hgo' := M'.go
        rw [hd] at hgo'
        obtain ⟨args, r', cl, due', er, ea, p0, p8, ec, hstep, hnone⟩ := (go_step hgo').ex
        have hat : (ns.map V.int)[i]? = some (V.int ns[i]) := by
          rw [List.getElem?_map, List.getElem?_eq_getElem c]
          rfl
        generalize ns[i] = p at hd ec p0 p8 hstep hnone hat ea
        rw [er] at hd
        have hlen : ns.length - i = 1 + args.length + r'.length := by
          rw [← List.length_drop, hd, List.length_cons, List.length_append, asInts_len]
          omega
        have hr' := Go.drop hd
        -- number = calls[at]; behind = at + 1 + NUMBERS[number]; answer = [0]
        refine ⟨_, rfl, _, rfl, a, _, _, _, rfl, rfl, M'.calls, atI_iv hat, ?_⟩
        refine ⟨_, rfl, _, _, rfl, rfl, _, rfl, aN, _, _, _, rfl, rfl, hNums H', nums_at p0 p8, _, _, rfl, rfl, ?_⟩
        refine ⟨(by show 1 ≤ sizeLine; decide), fun y0 hy0 => ?_⟩
        have s0 : Same H' (upd H' y0 (.lst [.int 0])) := same_upd hy0
        have hy00 : upd H' y0 (.lst [.int 0]) y0 = some (.lst [.int 0]) := upd_same
        generalize upd H' y0 (.lst [.int 0]) = H0 at s0 hy00 ⊢
        rw [← ea]
        -- what is done behind the call, from any heap that has the answer
        have rest : ∀ (H3 : Hp) (x3 l3 y : Addr) (n3 : Km361.Net) (v7' : Option V) (ans : List Int), SqL K H3 a (ns.map V.int) → Stays K a l3 (ns.map V.int) → H3 fo = some (.lst (acc.map V.int)) → NetAt CN CL H3 x3 l3 n3 → NetOk n3 → fo ≠ l3 → y ≠ fo →
            H3 y = some (.lst (ans.map V.int)) → due = (ans.length : Int) :: (ans ++ due') → Go r' (some n3) due' →
            tSeq (tDrop (tBM K "list" rAppend (tVar 2) (tCons (tCB (fun xs H Q => ∃ x n, xs = [x] ∧ LenV K x H n ∧ Q (.int n) H) (tCons (tVar 6) tNil)) tNil)))
              (tSeq (tDrop (tBM K "list" rExtend (tVar 2) (tCons (tVar 6) tNil))) (tAsg (tVar 5) (gName 3)))
              { nx := fun σ' H'' => (∃ (i : Nat) (x l : Addr) (n : Km361.Net) (s : Km361Neutral.S) (acc due : List Int) (v4 v5 v6 v7 : Option V), σ' = [some (.ref a), some (.ref x), some (.ref fo), some (iv i), v4, v5, v6, v7] ∧ Mid K CN CL a fo ns i x l H'' n s acc due) ∧ ns.length - slotN σ' 3 < ns.length - i, rt := Q }
              [some (.ref a), some (.ref x3), some (.ref fo), some (iv i), some (.int p), some (iv (i + 1 + args.length)), some (.ref y), v7'] H3 := by
          intro H3 x3 l3 y n3 v7' ans hc3 st3 hf3 hn3 ho3 ne3 yne hy3 ed hg3
          have hsz : acc.length + (1 + ans.length) ≤ 10000000 := by
            have z := congrArg List.length M'.eq
            rw [List.length_append, ed, List.length_cons, List.length_append] at z
            omega
          refine ⟨_, rfl, .inl ⟨rfl, _, SqL.of hf3⟩, _, rfl, _, _, rfl, .inl ⟨_, SqL.of hy3, rfl⟩, fo, _, _, rfl, rfl, hf3, by rw [List.length_map]; exact line_lt (by omega), ?_⟩
          refine ⟨_, rfl, .inl ⟨rfl, _, SqL.of upd_same⟩, _, rfl, fo, y, _, _, rfl, rfl, upd_same, (by rw [upd_ne yne]; exact hy3), ?_, ?_⟩
          · rw [List.length_append, List.length_map, List.length_map]
            exact Nat.le_of_lt (line_lt (by show acc.length + 1 + ans.length ≤ _; omega))
          · rw [upd_upd]
            have ef : acc.map V.int ++ [V.int (((ans.map V.int).length : Nat) : Int)] ++ ans.map V.int = (acc ++ ((ans.length : Int) :: ans)).map V.int := by
              rw [List.map_append, List.map_cons, List.length_map, List.append_assoc]
              rfl
            refine ⟨_, rfl, ⟨i + 1 + args.length, x3, l3, n3, some n3, acc ++ ((ans.length : Int) :: ans), due', _, _, _, _, rfl, ?_⟩, ?_⟩
            · refine ⟨by omega, ?_, M'.st1, st3, ?_, hn3.other hf3 ne3, ho3, ne3, .inl rfl, by rw [hr']; exact hg3, ?_⟩
              · exact stays_sq M'.st1 hc3 keeps_upd
              · rw [ef]
                exact upd_same
              · rw [← M'.eq, ed, List.append_assoc]
                rfl
            · show ns.length - (i + 1 + args.length) < ns.length - i
              omega
        have hfo0 : H' fo = some (.lst (acc.map V.int)) := M'.found
        have yne0 : y0 ≠ fo := fun z => by rw [z, hfo0] at hy0; cases hy0
        refine ⟨_, rfl, rfl, _, rfl, ?_⟩
        by_cases cp : p = 0
        · -- a start
          refine if_true_of (by rw [cp]; rfl) ?_
          intro x2 dx2 nx2 nd2 nex2
          refine ⟨x2, dx2, rfl, upd_same, fun H2 l2 f1 f2 f3 kp2 => ⟨rfl, ?_⟩⟩
          have s3 : Same H0 H2 := Same.made nx2 nd2 kp2
          have hl2 : H0 l2 = none := by
            cases e : H0 l2 with
            | none => rfl
            | some o =>
              have z : upd (upd H0 dx2 (.own x2)) x2 (.ins CN dx2 []) l2 = some o := by
                rw [upd_ne (ne_of_none e nx2), upd_ne (ne_of_none e nd2)]
                exact e
              rw [f3] at z
              cases z
          have ecl : cl = .start := (callN_start ec).mp cp
          obtain ⟨d1, g1⟩ := hstep Km361.fresh (.inr ⟨cp, rfl⟩)
          subst ecl
          refine rest H2 x2 l2 y0 Km361.fresh _ [0] ((s0.trans s3).seq M'.calls) (stays_of (s0.seq M'.calls) hl2) (s3 _ _ (s0 _ _ hfo0)) (fresh_at f1 f2) fresh_ok (fun z => ?_) yne0 (s3 _ _ hy00) d1 g1
          have z2 := s0 _ _ hfo0
          rw [z, hl2] at z2
          cases z2
        · -- another call
          refine if_false_of (decide_eq_false fun z => cp (V.int.inj z)) ?_
          obtain ⟨fd, hget, hheld⟩ := hDeeds p (by omega) p8
          refine ⟨_, rfl, aD, p, _, rfl, rfl, hget, ?_⟩
          refine ⟨fd, _, rfl, hheld, _, rfl, _, rfl, _, rfl, _, _, rfl, rfl, _, rfl, _, rfl, _, rfl, a, _, rfl, s0.seq M'.calls, fun qa hqa => ?_⟩
          have est : s = some n := by
            rcases M'.st with z | z
            · exact z
            · exact absurd (hnone z) cp
          obtain ⟨d1, g1⟩ := hstep n (.inl est)
          have s4 : Same H0 (upd H0 qa (.lst (ivs args))) := same_upd hqa
          have ecut := cut_args hd
          refine ⟨x, l, qa, n, args, cl, rfl, M'.net.same (s0.trans ?_), M'.ok, ?_, ec, fun H4 y hy hyn hyl hn4 k4 => ?_⟩
          · exact same_upd hqa
          · rw [← ecut]
            exact upd_same
          · have k5 : Keeps l H' H4 := fun b o e hb hi => k4 b o (same_upd hqa b o (s0 b o e)) hb hi
            have hf4 : H4 fo = some (.lst (acc.map V.int)) := k5 _ _ hfo0 M'.ne (by intro C dx fs z; cases z)
            refine rest H4 x l y (Km361.act n cl).1 _ (said (Km361.act n cl).2) (stays_sq M'.st2 M'.calls k5) M'.st2 hf4 hn4 (act_ok M'.ok cl) M'.ne (fun z => ?_) hy d1 g1
            have z2 := same_upd (o := .lst (cutV (ns.map V.int) (some ((i : Int) + 1)) (some ((i : Int) + 1 + ((args.length : Nat) : Int))))) hqa _ _ (s0 _ _ hfo0)
            rw [z] at hyn
            exact absurd (hyn.symm.trans z2) (by intro k; cases k)
      · refine if_false_of (decide_eq_false fun z => c (Int.ofNat_lt.mp z)) ?_
        have e0 : ns.drop i = [] := List.drop_of_length_le (by omega)
        have hg := M'.go
        rw [e0] at hg
        have ed := go_nil hg
        refine ⟨_, rfl, q H' fo ?_⟩
        rw [← M'.eq, ed, List.append_nil]
        exact M'.found
    · rintro σ H' Q1 Q2 hq ⟨v1, h1, v2, h2, xx, nn, h3, h4, i1, i2, h5, h6, k, h7, h8⟩
      exact ⟨v1, h1, v2, h2, xx, nn, h3, h4, i1, i2, h5, h6, k, h7, hq _ _ h8⟩
end
end Tc

namespace Tc
open PySem PySem.Spec PyProof.Rows L2

/-! ### from what the top has written -/
section
variable {P : Program} {w : World} {K : PySem.W.Frag} {h : Heap} {mg : Str → Option Value}
theorem fun_at {x : Str} {st : Stmt} {ps : List Str} {f : Addr} {oc : Value} {od an : Option Addr} {sl : Array (Option Value)} {kV dc pm cd ct : Value} (X : K.In h) (G : h.Ns mainGlobals mg)
    (a : PySem.W.nsIn K mainGlobals x = some (some (.ref f))) (l : K.lookup f = some ⟨oc, od, .func (PySem.W.fnOf x x (defArgs st) (defBody st) (defScope st) .none kV dc pm an cd ct), sl⟩) (c : PySem.W.codeIn K cd x = true) (k : PySem.W.keepIn K (.ref f) = true)
    (b : ∀ (kV doc pm : Value) (an : Option Addr) (cdv ct : Value) (us : List Value), us.length = ps.length → bindArgs (PySem.W.fnOf x x (defArgs st) (defBody st) (defScope st) .none kV doc pm an cdv ct) ⟨us, []⟩ = pure (ps.zip us)) :
    FunAt K mg x st ps ∧ mg x = some (.ref f) := by
  have F := fun_mk (st := st) l c k
  exact ⟨⟨f, _, F, PySem.W.mg_of X G a, F.binds b⟩, PySem.W.mg_of X G a⟩
theorem init_at {C : Addr} {qual : Str} {st : Stmt} {ps : List Str} {f : Addr} {oc : Value} {od an : Option Addr} {sl : Array (Option Value)} {kV dc pm cd ct : Value}
    (a : PySem.W.findIn K (.ref C) "__init__" = some (some (.ref f))) (i : PySem.W.isFn K (.ref f) = true) (l : K.lookup f = some ⟨oc, od, .func (PySem.W.fnOf "__init__" qual (defArgs st) (defBody st) (defScope st) .none kV dc pm an cd ct), sl⟩) (c : PySem.W.codeIn K cd qual = true) (k : PySem.W.keepIn K (.ref f) = true)
    (mk : PySem.W.makesIn K C = true) (kc : PySem.W.keepIn K (.ref C) = true)
    (b : ∀ (kV doc pm : Value) (an : Option Addr) (cdv ct : Value) (us : List Value), us.length = ps.length → bindArgs (PySem.W.fnOf "__init__" qual (defArgs st) (defBody st) (defScope st) .none kV doc pm an cdv ct) ⟨us, []⟩ = pure (ps.zip us)) :
    InitAt K C qual st ps := by
  have F := fun_mk (st := st) l c k
  exact ⟨f, _, ⟨mk, a, i, kc⟩, F, F.binds b⟩
theorem cls_at {C : Addr} (pg : PySem.W.plainGet K C Str.empty = true) (hd : PySem.W.hasDictIn K C = true) (po : PySem.W.plainOver K C = true) (sa : PySem.W.findIn K (.ref C) "__setattr__" = some (some (.builtin "object.__setattr__"))) : Cls K C := ⟨pg, hd, po, sa⟩
theorem num_at {x : Str} {i : Int} {t : Tok} (X : K.In h) (G : h.Ns mainGlobals mg) (a : PySem.W.nsIn K mainGlobals x = some (some (.int i t))) : ∃ t, mg x = some (.int i t) := ⟨t, PySem.W.mg_of X G a⟩
theorem nums_tup {aN : Addr} {dd : Option Addr} {sl : Array (Option Value)} {n : Nat} {t0 t1 t2 t3 t4 t5 t6 t7 t8 : Tok}
    (l : K.lookup aN = some ⟨.type "tuple", dd, .seq #[.int 0 t0, .int 3 t1, .int 1 t2, .int 2 t3, .int 2 t4, .int 0 t5, .int 2 t6, .int 1 t7, .int 0 t8] n, sl⟩) (H : Hp) : SqT K H aN numsV :=
  .inr ⟨_, _, _, l, rfl, rfl, by show 9 ≤ sizeLine; decide, .cons ⟨_, rfl⟩ (.cons ⟨_, rfl⟩ (.cons ⟨_, rfl⟩ (.cons ⟨_, rfl⟩ (.cons ⟨_, rfl⟩ (.cons ⟨_, rfl⟩ (.cons ⟨_, rfl⟩ (.cons ⟨_, rfl⟩ (.cons ⟨_, rfl⟩ .nil))))))))⟩
theorem deeds_at {aD f1 f2 f3 f4 f5 f6 f7 f8 : Addr} {n : Nat} {t1 t2 t3 t4 t5 t6 t7 t8 : Tok}
    (l : K.lookup aD = some ⟨.type "dict", none, .dict #[⟨hashInt 1, .int 1 t1, .ref f1⟩, ⟨hashInt 2, .int 2 t2, .ref f2⟩, ⟨hashInt 3, .int 3 t3, .ref f3⟩, ⟨hashInt 4, .int 4 t4, .ref f4⟩, ⟨hashInt 5, .int 5 t5, .ref f5⟩, ⟨hashInt 6, .int 6 t6, .ref f6⟩, ⟨hashInt 7, .int 7 t7, .ref f7⟩, ⟨hashInt 8, .int 8 t8, .ref f8⟩] n, #[]⟩) :
    KGet K aD 1 (.ref f1) ∧ KGet K aD 2 (.ref f2) ∧ KGet K aD 3 (.ref f3) ∧ KGet K aD 4 (.ref f4) ∧ KGet K aD 5 (.ref f5) ∧ KGet K aD 6 (.ref f6) ∧ KGet K aD 7 (.ref f7) ∧ KGet K aD 8 (.ref f8) := by
  have hk : ∀ e ∈ (#[⟨hashInt 1, .int 1 t1, .ref f1⟩, ⟨hashInt 2, .int 2 t2, .ref f2⟩, ⟨hashInt 3, .int 3 t3, .ref f3⟩, ⟨hashInt 4, .int 4 t4, .ref f4⟩, ⟨hashInt 5, .int 5 t5, .ref f5⟩, ⟨hashInt 6, .int 6 t6, .ref f6⟩, ⟨hashInt 7, .int 7 t7, .ref f7⟩, ⟨hashInt 8, .int 8 t8, .ref f8⟩] : Array DictEntry).toList, ∃ k t, e.key = .int k t ∧ e.hash = hashInt k := by
    intro e m
    simp only [List.mem_cons, List.not_mem_nil, or_false] at m
    rcases m with m | m | m | m | m | m | m | m <;> subst m <;> exact ⟨_, _, rfl, rfl⟩
  have get : ∀ (i : Int) (f : Addr), findBy Value.isInt (#[⟨hashInt 1, .int 1 t1, .ref f1⟩, ⟨hashInt 2, .int 2 t2, .ref f2⟩, ⟨hashInt 3, .int 3 t3, .ref f3⟩, ⟨hashInt 4, .int 4 t4, .ref f4⟩, ⟨hashInt 5, .int 5 t5, .ref f5⟩, ⟨hashInt 6, .int 6 t6, .ref f6⟩, ⟨hashInt 7, .int 7 t7, .ref f7⟩, ⟨hashInt 8, .int 8 t8, .ref f8⟩] : Array DictEntry) i = some (.ref f) → KGet K aD i (.ref f) :=
    fun i f e => ⟨_, _, _, l, hk, e, rfl⟩
  refine ⟨get 1 f1 ?_, get 2 f2 ?_, get 3 f3 ?_, get 4 f4 ?_, get 5 f5 ?_, get 6 f6 ?_, get 7 f7 ?_, get 8 f8 ?_⟩ <;> (unfold findBy; rw [List.find?_toArray]; rfl)
end

/-! ### all defs, one upon the other -/
theorem held_of {P : Program} {w : World} {K : PySem.W.Frag} {mg : Str → Option Value} {base : Heap} {x : Str} {k : Nat} {ps : List Str} {sp : Sp} {f : Addr} (D : Def P w K mg base x k ps sp) (m : mg x = some (.ref f)) : Held P w K mg base k f sp := by
  obtain ⟨g, fd, F, m', kp, b⟩ := D.ex
  rw [m] at m'
  cases m'
  exact ⟨fd, ps, F, kp, b⟩
theorem all_mk {P : Program} {w : World} {K : PySem.W.Frag} {h : Heap} {mg : Str → Option Value} {fa CN CL CT aN aD f1 f2 f3 f4 f5 f6 f7 f8 fA : Addr} (X : K.In h) (G : h.Ns mainGlobals mg) (hfa : mg "answers" = some (.ref fa))
    {oc : Value} {od an : Option Addr} {sl : Array (Option Value)} {kV dc pm cd ct : Value} (T : Txt K mg CN CL CT)
    (I1 : InitAt K CL "Line.__init__" sLine0 ["self", "one", "other", "most"]) (I2 : InitAt K CN "Net.__init__" sNet0 ["self"]) (I3 : InitAt K CT "Tree.__init__" sTree0 ["self"])
    (fFree : FunAt K mg "free_number" sFree ["net"]) (fHas : FunAt K mg "has_line" sHas ["net", "number"]) (fPlace : FunAt K mg "has_place" sPlace ["side", "place"]) (fOver : FunAt K mg "is_over" sOver ["line", "side"])
    (fEdge : FunAt K mg "edge_of" sEdge ["net", "side"]) (fEdges : FunAt K mg "edges_of" sEdges ["net"]) (fLeast : FunAt K mg "least_side" sLeast ["edges", "sides"]) (fCut : FunAt K mg "cut_of" sCut ["edges", "one", "other"])
    (fWeak : FunAt K mg "weakest_side" sWeak ["edges"]) (fHang : FunAt K mg "hang" sHang ["tree", "edges", "place"]) (fTree : FunAt K mg "tree_of" sTree ["edges"]) (fLB : FunAt K mg "least_between" sLB ["tree", "one", "other"])
    (fTwo : FunAt K mg "are_two_places" sTwo ["one", "other"])
    (d1 : FunAt K mg "add_line" sD1 ["net", "numbers"] ∧ mg "add_line" = some (.ref f1)) (d2 : FunAt K mg "drop_line" sD2 ["net", "numbers"] ∧ mg "drop_line" = some (.ref f2)) (d3 : FunAt K mg "widen_line" sD3 ["net", "numbers"] ∧ mg "widen_line" = some (.ref f3))
    (d4 : FunAt K mg "between" sD4 ["net", "numbers"] ∧ mg "between" = some (.ref f4)) (d5 : FunAt K mg "tree_told" sD5 ["net", "numbers"] ∧ mg "tree_told" = some (.ref f5)) (d6 : FunAt K mg "told" sD6 ["net", "numbers"] ∧ mg "told" = some (.ref f6))
    (d7 : FunAt K mg "edge" sD7 ["net", "numbers"] ∧ mg "edge" = some (.ref f7)) (d8 : FunAt K mg "weakest" sD8 ["net", "numbers"] ∧ mg "weakest" = some (.ref f8))
    (gN : mg "NUMBERS" = some (.ref aN)) (nN : ∀ H, SqT K H aN numsV) (gD : mg "DEEDS" = some (.ref aD))
    (nD : KGet K aD 1 (.ref f1) ∧ KGet K aD 2 (.ref f2) ∧ KGet K aD 3 (.ref f3) ∧ KGet K aD 4 (.ref f4) ∧ KGet K aD 5 (.ref f5) ∧ KGet K aD 6 (.ref f6) ∧ KGet K aD 7 (.ref f7) ∧ KGet K aD 8 (.ref f8))
    (aA : PySem.W.nsIn K mainGlobals "answers" = some (some (.ref fA))) (lA : K.lookup fA = some ⟨oc, od, .func (PySem.W.fnOf "answers" "answers" (defArgs sAns) (defBody sAns) (defScope sAns) .none kV dc pm an cd ct), sl⟩) (cA : PySem.W.codeIn K cd "answers" = true) (kA : PySem.W.keepIn K (.ref fA) = true) :
    ∃ fd : FuncData, (∀ (s : Shared) (us : List Value), us.length = (["calls"] : List Str).length → BindsTo s fd ⟨us, []⟩ ((["calls"] : List Str).zip us)) ∧ ∀ base : Heap, K.In base → base.Ns mainGlobals mg → FnOk P w K mg base CX0 6 fa fd ["calls"] (spAns K) := by
  have e := hfa.symm.trans (PySem.W.mg_of X G aA)
  cases e
  have FA := fun_mk (st := sAns) lA cA kA
  refine ⟨PySem.W.fnOf "answers" "answers" (defArgs sAns) (defBody sAns) (defScope sAns) .none kV dc pm an cd ct, fun s us hu => match us, hu with | [_], _ => .of_eq rfl, fun base _ _ => ?_⟩
  have mL : MakeAt P w K mg base CL ["self", "one", "other", "most"] (spLine0 CL) := ok_line0 T I1
  have mN : MakeAt P w K mg base CN ["self"] (spNet0 CN) := ok_net0 T I2
  have mT : MakeAt P w K mg base CT ["self"] (spTree0 CT) := ok_tree0 T I3
  have dPlace : Def P w K mg base "has_place" 1 ["side", "place"] spPlace := ok_place fPlace
  have dOver : Def P w K mg base "is_over" 2 ["line", "side"] (spOver CL) := ok_over T fOver dPlace
  have dEdge : Def P w K mg base "edge_of" 3 ["net", "side"] (spEdge CN CL) := ok_edge T fEdge dOver
  have dEdges : Def P w K mg base "edges_of" 4 ["net"] (spEdges CN CL) := ok_edges T fEdges dEdge
  have dLeast : Def P w K mg base "least_side" 1 ["edges", "sides"] spLeast := ok_least fLeast
  have dCut : Def P w K mg base "cut_of" 2 ["edges", "one", "other"] spCut := ok_cut T fCut dPlace dLeast
  have dWeak : Def P w K mg base "weakest_side" 2 ["edges"] spWeak := ok_weak T fWeak dLeast
  have dHang : Def P w K mg base "hang" 3 ["tree", "edges", "place"] (spHang CT) := ok_hang T fHang dPlace dCut
  have dTree : Def P w K mg base "tree_of" 4 ["edges"] (spTree CT) := ok_tree T fTree mT dHang
  have dLB : Def P w K mg base "least_between" 1 ["tree", "one", "other"] (spLB CT) := ok_lb T fLB
  have dTwo : Def P w K mg base "are_two_places" 1 ["one", "other"] spTwo := ok_two T fTwo
  have dHas : Def P w K mg base "has_line" 1 ["net", "number"] (spHas CN CL) := ok_has T fHas
  have dFree : Def P w K mg base "free_number" 1 ["net"] (spFree CN CL) := ok_free T fFree
  obtain ⟨n1, n2, n3, n4, n5, n6, n7, n8⟩ := nD
  refine ok_ans T ⟨⟨aN, gN, nN⟩, ⟨aD, gD, fun p p0 p8 => ?_⟩⟩ mN FA
  have cs : p = 1 ∨ p = 2 ∨ p = 3 ∨ p = 4 ∨ p = 5 ∨ p = 6 ∨ p = 7 ∨ p = 8 := by omega
  rcases cs with c | c | c | c | c | c | c | c
  · rw [c]; exact ⟨f1, n1, held_of (ok_d1 T d1.1 dTwo dFree mL) d1.2⟩
  · rw [c]; exact ⟨f2, n2, held_of (ok_d2 T d2.1 dHas) d2.2⟩
  · rw [c]; exact ⟨f3, n3, held_of (ok_d3 T d3.1 dHas) d3.2⟩
  · rw [c]; exact ⟨f4, n4, held_of (ok_d4 T d4.1 dTwo dEdges dCut) d4.2⟩
  · rw [c]; exact ⟨f5, n5, held_of (ok_d5 T d5.1 dEdges dTree) d5.2⟩
  · rw [c]; exact ⟨f6, n6, held_of (ok_d6 T d6.1 dTwo dEdges dTree dLB) d6.2⟩
  · rw [c]; exact ⟨f7, n7, held_of (ok_d7 T d7.1 dEdge) d7.2⟩
  · rw [c]; exact ⟨f8, n8, held_of (ok_d8 T d8.1 dEdges dWeak) d8.2⟩
end Tc

open PySem PySem.W PyProof.Rows
set_option maxHeartbeats 8000000 in
theorem PySem.Challenge.cw_treeofcuts_s01_answers_holds : PySem.Challenge.rw_treeofcuts_s01_answers.Holds := by
  w_on; k_headS; (case hw => exact ⟨[.list [.int 0]], by decide +kernel, by decide +kernel⟩)
  k_fillS
  refine L2.walk_specK (r := PySem.Challenge.rw_treeofcuts_s01_answers) (k := 6) (CX := L2.CX0) (ps := ["calls"]) (sp := Tc.spAns) (by decide +kernel) rfl rfl ⟨rfl, by decide, by decide⟩ (fun w h Y => PySem.W.kIn_of Y) ?F ?S (fun _ _ _ _ z => z)
  case F =>
    intro w mg fa h Y KX G hmg
    refine' Tc.all_mk KX G hmg ?T ?I1 ?I2 ?I3 ?fFree ?fHas ?fPlace ?fOver ?fEdge ?fEdges ?fLeast ?fCut ?fWeak ?fHang ?fTree ?fLB ?fTwo ?d1 ?d2 ?d3 ?d4 ?d5 ?d6 ?d7 ?d8 ?gN ?nN ?gD ?nD ?aA ?lA ?cA ?kA
    case T =>
      refine' Tc.Txt.mk ?cN_1 ?cL_1 ?cT_1 ?nLines_1 ?nOne_1 ?nOther_1 ?nMost_1 ?nBelow_1 ?nWeights_1 (PySem.W.mg_of KX G ?gN_1) (PySem.W.mg_of KX G ?gL_1) (PySem.W.mg_of KX G ?gT_1) (Tc.num_at KX G ?places_1) (Tc.num_at KX G ?sides_1) (Tc.num_at KX G ?lines_1) (Tc.num_at KX G ?much_1) (Tc.num_at KX G ?start_1) (PySem.W.mg_none_of KX G ?range_1) (PySem.W.mg_none_of KX G ?enumerate_1) (PySem.W.mg_none_of KX G ?len_1) (PySem.W.mg_none_of KX G ?list_1) (PySem.W.mg_none_of KX G ?min_1)
      (case gN_1 => k_is)
      (case gL_1 => k_is)
      (case gT_1 => k_is)
      (case cN_1 => refine' Tc.cls_at ?pgcN_1 ?hdcN_1 ?pocN_1 ?sacN_1; (case pgcN_1 => k_is); (case hdcN_1 => k_is); (case pocN_1 => k_is); (case sacN_1 => k_is))
      (case cL_1 => refine' Tc.cls_at ?pgcL_1 ?hdcL_1 ?pocL_1 ?sacL_1; (case pgcL_1 => k_is); (case hdcL_1 => k_is); (case pocL_1 => k_is); (case sacL_1 => k_is))
      (case cT_1 => refine' Tc.cls_at ?pgcT_1 ?hdcT_1 ?pocT_1 ?sacT_1; (case pgcT_1 => k_is); (case hdcT_1 => k_is); (case pocT_1 => k_is); (case sacT_1 => k_is))
      (case nLines_1 => (show PySem.W.findIn _ _ _ = _); k_is)
      (case nOne_1 => (show PySem.W.findIn _ _ _ = _); k_is)
      (case nOther_1 => (show PySem.W.findIn _ _ _ = _); k_is)
      (case nMost_1 => (show PySem.W.findIn _ _ _ = _); k_is)
      (case nBelow_1 => (show PySem.W.findIn _ _ _ = _); k_is)
      (case nWeights_1 => (show PySem.W.findIn _ _ _ = _); k_is)
      (case places_1 => k_is)
      (case sides_1 => k_is)
      (case lines_1 => k_is)
      (case much_1 => k_is)
      (case start_1 => k_is)
      (case range_1 => k_is)
      (case enumerate_1 => k_is)
      (case len_1 => k_is)
      (case list_1 => k_is)
      (case min_1 => k_is)
    case I1 =>
      refine' Tc.init_at ?a_2 ?i_2 ?l_2 ?c_2 ?k_2 ?mk_2 ?kc_2 (fun _ _ _ _ _ _ us hl => match us, hl with | [_, _, _, _], _ => rfl)
      (case a_2 => k_is); (case i_2 => k_is); (case l_2 => k_is); (case c_2 => k_is); (case k_2 => k_is); (case mk_2 => k_is); (case kc_2 => k_is)
    case I2 =>
      refine' Tc.init_at ?a_3 ?i_3 ?l_3 ?c_3 ?k_3 ?mk_3 ?kc_3 (fun _ _ _ _ _ _ us hl => match us, hl with | [_], _ => rfl)
      (case a_3 => k_is); (case i_3 => k_is); (case l_3 => k_is); (case c_3 => k_is); (case k_3 => k_is); (case mk_3 => k_is); (case kc_3 => k_is)
    case I3 =>
      refine' Tc.init_at ?a_4 ?i_4 ?l_4 ?c_4 ?k_4 ?mk_4 ?kc_4 (fun _ _ _ _ _ _ us hl => match us, hl with | [_], _ => rfl)
      (case a_4 => k_is); (case i_4 => k_is); (case l_4 => k_is); (case c_4 => k_is); (case k_4 => k_is); (case mk_4 => k_is); (case kc_4 => k_is)
    case fFree =>
      refine' (Tc.fun_at KX G ?a_5 ?l_5 ?c_5 ?k_5 (fun _ _ _ _ _ _ us hl => match us, hl with | [_], _ => rfl)).1
      (case a_5 => k_is); (case l_5 => k_is); (case c_5 => k_is); (case k_5 => k_is)
    case fHas =>
      refine' (Tc.fun_at KX G ?a_6 ?l_6 ?c_6 ?k_6 (fun _ _ _ _ _ _ us hl => match us, hl with | [_, _], _ => rfl)).1
      (case a_6 => k_is); (case l_6 => k_is); (case c_6 => k_is); (case k_6 => k_is)
    case fPlace =>
      refine' (Tc.fun_at KX G ?a_7 ?l_7 ?c_7 ?k_7 (fun _ _ _ _ _ _ us hl => match us, hl with | [_, _], _ => rfl)).1
      (case a_7 => k_is); (case l_7 => k_is); (case c_7 => k_is); (case k_7 => k_is)
    case fOver =>
      refine' (Tc.fun_at KX G ?a_8 ?l_8 ?c_8 ?k_8 (fun _ _ _ _ _ _ us hl => match us, hl with | [_, _], _ => rfl)).1
      (case a_8 => k_is); (case l_8 => k_is); (case c_8 => k_is); (case k_8 => k_is)
    case fEdge =>
      refine' (Tc.fun_at KX G ?a_9 ?l_9 ?c_9 ?k_9 (fun _ _ _ _ _ _ us hl => match us, hl with | [_, _], _ => rfl)).1
      (case a_9 => k_is); (case l_9 => k_is); (case c_9 => k_is); (case k_9 => k_is)
    case fEdges =>
      refine' (Tc.fun_at KX G ?a_10 ?l_10 ?c_10 ?k_10 (fun _ _ _ _ _ _ us hl => match us, hl with | [_], _ => rfl)).1
      (case a_10 => k_is); (case l_10 => k_is); (case c_10 => k_is); (case k_10 => k_is)
    case fLeast =>
      refine' (Tc.fun_at KX G ?a_11 ?l_11 ?c_11 ?k_11 (fun _ _ _ _ _ _ us hl => match us, hl with | [_, _], _ => rfl)).1
      (case a_11 => k_is); (case l_11 => k_is); (case c_11 => k_is); (case k_11 => k_is)
    case fCut =>
      refine' (Tc.fun_at KX G ?a_12 ?l_12 ?c_12 ?k_12 (fun _ _ _ _ _ _ us hl => match us, hl with | [_, _, _], _ => rfl)).1
      (case a_12 => k_is); (case l_12 => k_is); (case c_12 => k_is); (case k_12 => k_is)
    case fWeak =>
      refine' (Tc.fun_at KX G ?a_13 ?l_13 ?c_13 ?k_13 (fun _ _ _ _ _ _ us hl => match us, hl with | [_], _ => rfl)).1
      (case a_13 => k_is); (case l_13 => k_is); (case c_13 => k_is); (case k_13 => k_is)
    case fHang =>
      refine' (Tc.fun_at KX G ?a_14 ?l_14 ?c_14 ?k_14 (fun _ _ _ _ _ _ us hl => match us, hl with | [_, _, _], _ => rfl)).1
      (case a_14 => k_is); (case l_14 => k_is); (case c_14 => k_is); (case k_14 => k_is)
    case fTree =>
      refine' (Tc.fun_at KX G ?a_15 ?l_15 ?c_15 ?k_15 (fun _ _ _ _ _ _ us hl => match us, hl with | [_], _ => rfl)).1
      (case a_15 => k_is); (case l_15 => k_is); (case c_15 => k_is); (case k_15 => k_is)
    case fLB =>
      refine' (Tc.fun_at KX G ?a_16 ?l_16 ?c_16 ?k_16 (fun _ _ _ _ _ _ us hl => match us, hl with | [_, _, _], _ => rfl)).1
      (case a_16 => k_is); (case l_16 => k_is); (case c_16 => k_is); (case k_16 => k_is)
    case fTwo =>
      refine' (Tc.fun_at KX G ?a_17 ?l_17 ?c_17 ?k_17 (fun _ _ _ _ _ _ us hl => match us, hl with | [_, _], _ => rfl)).1
      (case a_17 => k_is); (case l_17 => k_is); (case c_17 => k_is); (case k_17 => k_is)
    case d1 =>
      refine' Tc.fun_at KX G ?a_18 ?l_18 ?c_18 ?k_18 (fun _ _ _ _ _ _ us hl => match us, hl with | [_, _], _ => rfl)
      (case a_18 => k_is); (case l_18 => k_is); (case c_18 => k_is); (case k_18 => k_is)
    case d2 =>
      refine' Tc.fun_at KX G ?a_19 ?l_19 ?c_19 ?k_19 (fun _ _ _ _ _ _ us hl => match us, hl with | [_, _], _ => rfl)
      (case a_19 => k_is); (case l_19 => k_is); (case c_19 => k_is); (case k_19 => k_is)
    case d3 =>
      refine' Tc.fun_at KX G ?a_20 ?l_20 ?c_20 ?k_20 (fun _ _ _ _ _ _ us hl => match us, hl with | [_, _], _ => rfl)
      (case a_20 => k_is); (case l_20 => k_is); (case c_20 => k_is); (case k_20 => k_is)
    case d4 =>
      refine' Tc.fun_at KX G ?a_21 ?l_21 ?c_21 ?k_21 (fun _ _ _ _ _ _ us hl => match us, hl with | [_, _], _ => rfl)
      (case a_21 => k_is); (case l_21 => k_is); (case c_21 => k_is); (case k_21 => k_is)
    case d5 =>
      refine' Tc.fun_at KX G ?a_22 ?l_22 ?c_22 ?k_22 (fun _ _ _ _ _ _ us hl => match us, hl with | [_, _], _ => rfl)
      (case a_22 => k_is); (case l_22 => k_is); (case c_22 => k_is); (case k_22 => k_is)
    case d6 =>
      refine' Tc.fun_at KX G ?a_23 ?l_23 ?c_23 ?k_23 (fun _ _ _ _ _ _ us hl => match us, hl with | [_, _], _ => rfl)
      (case a_23 => k_is); (case l_23 => k_is); (case c_23 => k_is); (case k_23 => k_is)
    case d7 =>
      refine' Tc.fun_at KX G ?a_24 ?l_24 ?c_24 ?k_24 (fun _ _ _ _ _ _ us hl => match us, hl with | [_, _], _ => rfl)
      (case a_24 => k_is); (case l_24 => k_is); (case c_24 => k_is); (case k_24 => k_is)
    case d8 =>
      refine' Tc.fun_at KX G ?a_25 ?l_25 ?c_25 ?k_25 (fun _ _ _ _ _ _ us hl => match us, hl with | [_, _], _ => rfl)
      (case a_25 => k_is); (case l_25 => k_is); (case c_25 => k_is); (case k_25 => k_is)
    case gN =>
      refine' PySem.W.mg_of KX G ?a_26
      (case a_26 => k_is)
    case nN =>
      refine' Tc.nums_tup ?a_27
      (case a_27 => k_is)
    case gD =>
      refine' PySem.W.mg_of KX G ?a_28
      (case a_28 => k_is)
    case nD =>
      refine' Tc.deeds_at ?a_29
      (case a_29 => k_is)
    (case aA => k_is); (case lA => k_is); (case cA => k_is); (case kA => k_is)
  case S =>
    intro K H xs a hO hwi hask hx
    cases hx with
    | cons h1 h2 =>
      cases h2
      cases h1 with
      | lst hs ha =>
        have e := L2.ints_dw a.1 _ ha
        subst e
        exact ⟨_, a.1, rfl, hs, hask, fun H' p hp => .lst (L2.SqL.of hp) (L2.dw_ints _)⟩
