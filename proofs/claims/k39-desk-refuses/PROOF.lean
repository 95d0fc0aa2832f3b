import PyProof.Rows.All
import PySem.PyData
import Wide.All
import OpenK.AllK
import Wide.FinOn
import HandS.ForExc
import HandS.Comp
import HandS.Iter
import HandS.Walk
import HandS.Text
import HandS.More
import HandS.IsInst
import HandS.TupAny
import HandS.Strs
import HandS.Deep
import HandS.NoneIn
import HandS.Steps
import HandS.Conv
import HandS.ExcField
import HandS.ExcIs
import KE.DataEq
import KE.KExcSuper
import PySem.Challenge.RW_truelevels_k39_desk_refuses
import HandS.ExcSuper
import HandS.ExcOwn
import KE.KExcIs
import HandS.WordsExc
section
set_option Elab.async false
set_option autoImplicit false
/-! The plain law: marks, numbered readings, what a desk can do, which deeds are wrong, parts by relabelling. No program here. -/
namespace K39
open PySem

/-! ### data -/
structure Row where
  n : Nat
  a : Nat
  b : Nat
  v : Int
structure Md where
  marks : List Str
  rows : List Row
  num : Nat
  k : Int
def Row.rd (r : Row) : PyData := .tuple [.int r.a, .int r.b, .int r.v]
def Row.d (r : Row) : PyData := .tuple [.int r.n, r.rd]
def Md.d (m : Md) : PyData := .list [.list (m.marks.map .str), .list (m.rows.map Row.d), .int m.num, .int m.k]
inductive Deed where
  | mark (s : Str) | read (s t : Str) (v : Int) | drop (n : Int) | bound (k : Int)
def Deed.d : Deed → PyData
  | .mark s => .tuple [.str "mark", .str s]
  | .read s t v => .tuple [.str "read", .str s, .str t, .int v]
  | .drop n => .tuple [.str "drop", .int n]
  | .bound k => .tuple [.str "bound", .int k]
/-- first place of s -/
def ixOf (l : List Str) (s : Str) : Nat := l.findIdx (fun x => x == s)
def step (m : Md) : Deed → Md
  | .mark s => { m with marks := m.marks ++ [s] }
  | .read s t v => { m with rows := m.rows ++ [⟨m.num, ixOf m.marks s, ixOf m.marks t, v⟩], num := m.num + 1 }
  | .drop n => { m with rows := m.rows.filter fun r => !decide ((r.n : Int) = n) }
  | .bound k => { m with k := k }
def md0 : Md := ⟨[], [], 0, 0⟩

/-! ### what a desk can do -/
def letters : Str := "abcdefghijklmnopqrstuvwxyz"
def isNameS (s : Str) : Bool := decide (1 ≤ s.length) && decide (s.length ≤ 8) && s.cps.toList.all fun c => decide (c ∈ letters.cps.toList)
def isName : PyData → Bool
  | .str s => isNameS s
  | _ => false
def isInt : PyData → Bool
  | .int _ => true
  | _ => false
def canMark (m : Md) : PyData → Bool
  | .str s => isNameS s && !decide (s ∈ m.marks) && decide (m.marks.length < 16)
  | _ => false
def canRead (m : Md) : PyData → PyData → PyData → Bool
  | .str s, .str t, .int v => isNameS s && isNameS t && decide (s ∈ m.marks) && decide (t ∈ m.marks) && !decide (s = t) && decide (-1000000 ≤ v ∧ v ≤ 1000000) && decide (m.rows.length < 80)
  | _, _, _ => false
def canDrop (m : Md) : PyData → Bool
  | .int n => m.rows.any fun r => decide ((r.n : Int) = n)
  | _ => false
def canBound : PyData → Bool
  | .int k => decide (0 ≤ k ∧ k ≤ 20)
  | _ => false
/-- how many items a deed of this kind has -/
def lenOf (k : Str) : Option Nat := if k = "mark" then some 2 else if k = "read" then some 4 else if k = "drop" then some 2 else if k = "bound" then some 2 else none
def isShaped : PyData → Bool
  | .tuple (.str k :: r) => decide (lenOf k = some (r.length + 1))
  | _ => false
def canKind (m : Md) : PyData → Bool
  | .tuple [.str k, x] => if k = "mark" then canMark m x else if k = "drop" then canDrop m x else canBound x
  | .tuple [.str _, x, y, z] => canRead m x y z
  | _ => false
def canDo (m : Md) (cnt : Nat) (d : PyData) : Bool := isShaped d && decide (cnt < 1000) && canKind m d

theorem str_ne {a b : String} (h : ((a : Str) == (b : Str)) = false) : ¬ ((a : Str) = (b : Str)) := by
  intro e
  rw [e] at h
  simp at h
theorem n_dm : ¬ (("drop" : Str) = "mark") := str_ne (by decide +kernel)
theorem n_rm : ¬ (("read" : Str) = "mark") := str_ne (by decide +kernel)
theorem n_bm : ¬ (("bound" : Str) = "mark") := str_ne (by decide +kernel)
theorem n_bd : ¬ (("bound" : Str) = "drop") := str_ne (by decide +kernel)
theorem n_br : ¬ (("bound" : Str) = "read") := str_ne (by decide +kernel)
theorem n_dr : ¬ (("drop" : Str) = "read") := str_ne (by decide +kernel)
theorem n_rd : ¬ (("read" : Str) = "drop") := str_ne (by decide +kernel)
theorem n_md : ¬ (("mark" : Str) = "drop") := str_ne (by decide +kernel)
theorem n_mr : ¬ (("mark" : Str) = "read") := str_ne (by decide +kernel)

/-- a deed of one of the four shapes -/
inductive Shp : PyData → Prop where
  | mark (x : PyData) : Shp (.tuple [.str "mark", x])
  | read (x y z : PyData) : Shp (.tuple [.str "read", x, y, z])
  | drop (x : PyData) : Shp (.tuple [.str "drop", x])
  | bound (x : PyData) : Shp (.tuple [.str "bound", x])
theorem shp_of {d : PyData} (h : isShaped d = true) : Shp d := by
  match d, h with
  | .tuple (.str k :: r), h =>
    have h' : lenOf k = some (r.length + 1) := of_decide_eq_true h
    unfold lenOf at h'
    by_cases e1 : k = "mark"
    · rw [if_pos e1] at h'
      have hl : r.length = 1 := by injection h' with h'; omega
      match r, hl with
      | [x], _ => rw [e1]; exact .mark x
    · rw [if_neg e1] at h'
      by_cases e2 : k = "read"
      · rw [if_pos e2] at h'
        have hl : r.length = 3 := by injection h' with h'; omega
        match r, hl with
        | [x, y, z], _ => rw [e2]; exact .read x y z
      · rw [if_neg e2] at h'
        by_cases e3 : k = "drop"
        · rw [if_pos e3] at h'
          have hl : r.length = 1 := by injection h' with h'; omega
          match r, hl with
          | [x], _ => rw [e3]; exact .drop x
        · rw [if_neg e3] at h'
          by_cases e4 : k = "bound"
          · rw [if_pos e4] at h'
            have hl : r.length = 1 := by injection h' with h'; omega
            match r, hl with
            | [x], _ => rw [e4]; exact .bound x
          · rw [if_neg e4] at h'
            cases h'
theorem shaped_mark (x : PyData) : isShaped (.tuple [.str "mark", x]) = true := by
  show decide (lenOf "mark" = some 2) = true
  unfold lenOf
  simp
theorem shaped_read (x y z : PyData) : isShaped (.tuple [.str "read", x, y, z]) = true := by
  show decide (lenOf "read" = some 4) = true
  unfold lenOf
  rw [if_neg n_rm]
  simp
theorem shaped_drop (x : PyData) : isShaped (.tuple [.str "drop", x]) = true := by
  show decide (lenOf "drop" = some 2) = true
  unfold lenOf
  rw [if_neg n_dm, if_neg n_dr]
  simp
theorem shaped_bound (x : PyData) : isShaped (.tuple [.str "bound", x]) = true := by
  show decide (lenOf "bound" = some 2) = true
  unfold lenOf
  rw [if_neg n_bm, if_neg n_br, if_neg n_bd]
  simp
theorem kind_mark (m : Md) (x : PyData) : canKind m (.tuple [.str "mark", x]) = canMark m x := by
  show (if ("mark" : Str) = "mark" then canMark m x else if ("mark" : Str) = "drop" then canDrop m x else canBound x) = _
  rw [if_pos rfl]
theorem kind_drop (m : Md) (x : PyData) : canKind m (.tuple [.str "drop", x]) = canDrop m x := by
  show (if ("drop" : Str) = "mark" then canMark m x else if ("drop" : Str) = "drop" then canDrop m x else canBound x) = _
  rw [if_neg n_dm, if_pos rfl]
theorem kind_bound (m : Md) (x : PyData) : canKind m (.tuple [.str "bound", x]) = canBound x := by
  show (if ("bound" : Str) = "mark" then canMark m x else if ("bound" : Str) = "drop" then canDrop m x else canBound x) = _
  rw [if_neg n_bm, if_neg n_bd]
theorem kind_read (m : Md) (x y z : PyData) : canKind m (.tuple [.str "read", x, y, z]) = canRead m x y z := rfl

/-- what can be done is a deed -/
theorem deed_of {m : Md} {cnt : Nat} {d : PyData} (h : canDo m cnt d = true) : ∃ e : Deed, d = e.d := by
  unfold canDo at h
  simp only [Bool.and_eq_true] at h
  obtain ⟨⟨hs, _⟩, hk⟩ := h
  cases shp_of hs with
  | mark x =>
    rw [kind_mark] at hk
    cases x <;> first | exact ⟨.mark _, rfl⟩ | (exact absurd (show false = true from hk) Bool.false_ne_true)
  | drop x =>
    rw [kind_drop] at hk
    cases x <;> first | exact ⟨.drop _, rfl⟩ | (exact absurd (show false = true from hk) Bool.false_ne_true)
  | bound x =>
    rw [kind_bound] at hk
    cases x <;> first | exact ⟨.bound _, rfl⟩ | (exact absurd (show false = true from hk) Bool.false_ne_true)
  | read x y z =>
    rw [kind_read] at hk
    cases x <;> cases y <;> cases z <;> first | exact ⟨.read _ _ _, rfl⟩ | (exact absurd (show false = true from hk) Bool.false_ne_true)
theorem canDo_mark {m : Md} {cnt : Nat} {s : Str} : canDo m cnt (Deed.mark s).d = (decide (cnt < 1000) && canMark m (.str s)) := by
  show (isShaped (.tuple [.str "mark", .str s]) && _ && canKind m (.tuple [.str "mark", .str s])) = _
  rw [shaped_mark, kind_mark, Bool.true_and]
theorem canDo_read {m : Md} {cnt : Nat} {s t : Str} {v : Int} : canDo m cnt (Deed.read s t v).d = (decide (cnt < 1000) && canRead m (.str s) (.str t) (.int v)) := by
  show (isShaped (.tuple [.str "read", .str s, .str t, .int v]) && _ && canKind m (.tuple [.str "read", .str s, .str t, .int v])) = _
  rw [shaped_read, kind_read, Bool.true_and]
theorem canDo_drop {m : Md} {cnt : Nat} {n : Int} : canDo m cnt (Deed.drop n).d = (decide (cnt < 1000) && canDrop m (.int n)) := by
  show (isShaped (.tuple [.str "drop", .int n]) && _ && canKind m (.tuple [.str "drop", .int n])) = _
  rw [shaped_drop, kind_drop, Bool.true_and]
theorem canDo_bound {m : Md} {cnt : Nat} {k : Int} : canDo m cnt (Deed.bound k).d = (decide (cnt < 1000) && canBound (.int k)) := by
  show (isShaped (.tuple [.str "bound", .int k]) && _ && canKind m (.tuple [.str "bound", .int k])) = _
  rw [shaped_bound, kind_bound, Bool.true_and]

/-! ### a desk's state is in order -/
structure Wf (m : Md) : Prop where
  nd : m.marks.Nodup
  ends : ∀ r ∈ m.rows, r.a < m.marks.length ∧ r.b < m.marks.length
  nums : ∀ r ∈ m.rows, r.n < m.num
  few : m.marks.length ≤ 16
  few2 : m.rows.length ≤ 80
  short : ∀ s ∈ m.marks, isNameS s = true
theorem wf0 : Wf md0 := ⟨List.nodup_nil, (fun _ h => by cases h), (fun _ h => by cases h), Nat.zero_le _, Nat.zero_le _, (fun _ h => by cases h)⟩
theorem ix_lt {l : List Str} {s : Str} (h : s ∈ l) : ixOf l s < l.length := by
  unfold ixOf
  exact List.findIdx_lt_length_of_exists ⟨s, h, by simp⟩
theorem ix_get {l : List Str} {s : Str} (h : s ∈ l) : l[ixOf l s]? = some s := by
  have hl := ix_lt h
  have e : (l[ixOf l s] == s) = true := List.findIdx_getElem (p := fun x => x == s) (w := hl)
  rw [List.getElem?_eq_getElem hl]
  exact congrArg some (by simpa using e)
theorem ix_first {l : List Str} {s : Str} {j : Nat} (h : j < ixOf l s) : l[j]? ≠ some s := by
  intro e
  obtain ⟨hj, e2⟩ := List.getElem?_eq_some_iff.mp e
  have q := List.not_of_lt_findIdx (p := fun x => x == s) (xs := l) (i := j) h
  simp [e2] at q
theorem wf_step {m : Md} (w : Wf m) {cnt : Nat} {e : Deed} (h : canDo m cnt e.d = true) : Wf (step m e) := by
  cases e with
  | mark s =>
    rw [canDo_mark] at h
    simp only [canMark, Bool.and_eq_true, Bool.not_eq_true', decide_eq_true_eq, decide_eq_false_iff_not] at h
    obtain ⟨_, ⟨hn, hs⟩, hl⟩ := h
    refine ⟨?_, fun r hr => ?_, w.nums, ?_, w.few2, fun x hx => ?_⟩
    · show (m.marks ++ [s]).Nodup
      rw [List.nodup_append]
      refine ⟨w.nd, by simp, fun a ha b hb => ?_⟩
      have : b = s := by simpa using hb
      rw [this]
      exact fun q => hs (q ▸ ha)
    · have q := w.ends r hr
      show r.a < (m.marks ++ [s]).length ∧ r.b < (m.marks ++ [s]).length
      rw [List.length_append, List.length_singleton]
      omega
    · show (m.marks ++ [s]).length ≤ 16
      rw [List.length_append, List.length_singleton]
      omega
    · rcases List.mem_append.mp hx with hx | hx
      · exact w.short x hx
      · have : x = s := by simpa using hx
        rw [this]; exact hn
  | read s t v =>
    rw [canDo_read] at h
    simp only [canRead, Bool.and_eq_true, Bool.not_eq_true', decide_eq_true_eq, decide_eq_false_iff_not] at h
    obtain ⟨_, ⟨⟨⟨⟨⟨_, _⟩, hs⟩, ht⟩, _⟩, _⟩, hl⟩ := h
    refine ⟨w.nd, fun r hr => ?_, fun r hr => ?_, w.few, ?_, w.short⟩
    · rcases List.mem_append.mp hr with hr | hr
      · exact w.ends r hr
      · have : r = ⟨m.num, ixOf m.marks s, ixOf m.marks t, v⟩ := by simpa using hr
        rw [this]
        exact ⟨ix_lt hs, ix_lt ht⟩
    · rcases List.mem_append.mp hr with hr | hr
      · exact Nat.lt_succ_of_lt (w.nums r hr)
      · have : r = ⟨m.num, ixOf m.marks s, ixOf m.marks t, v⟩ := by simpa using hr
        rw [this]
        exact Nat.lt_succ_self _
    · show (m.rows ++ [_]).length ≤ 80
      rw [List.length_append, List.length_singleton]
      omega
  | drop n =>
    refine ⟨w.nd, fun r hr => w.ends r (List.mem_filter.mp hr).1, fun r hr => w.nums r (List.mem_filter.mp hr).1, w.few, ?_, w.short⟩
    show (m.rows.filter _).length ≤ 80
    exact Nat.le_trans (List.length_filter_le _ _) w.few2
  | bound k => exact ⟨w.nd, w.ends, w.nums, w.few, w.few2, w.short⟩
end K39
end

section
set_option Elab.async false
set_option autoImplicit false
/-! Parts: by relabelling, and by reaching. -/
namespace K39
open PySem

/-- joined over the pairs es -/
inductive Conn (es : List (Nat × Nat)) (i : Nat) : Nat → Prop where
  | refl : Conn es i i
  | fwd {a b : Nat} : (a, b) ∈ es → Conn es i a → Conn es i b
  | bwd {a b : Nat} : (a, b) ∈ es → Conn es i b → Conn es i a
namespace Conn
variable {es fs : List (Nat × Nat)} {i j k : Nat}
theorem trans (h1 : Conn es i j) (h2 : Conn es j k) : Conn es i k := by
  induction h2 with
  | refl => exact h1
  | fwd m _ ih => exact .fwd m ih
  | bwd m _ ih => exact .bwd m ih
theorem symm (h : Conn es i j) : Conn es j i := by
  induction h with
  | refl => exact .refl
  | fwd m _ ih => exact (Conn.bwd m .refl).trans ih
  | bwd m _ ih => exact (Conn.fwd m .refl).trans ih
theorem mono (hs : ∀ p ∈ es, p ∈ fs) (h : Conn es i j) : Conn fs i j := by
  induction h with
  | refl => exact .refl
  | fwd m _ ih => exact .fwd (hs _ m) ih
  | bwd m _ ih => exact .bwd (hs _ m) ih
end Conn

/-! ### relabelling -/
def relab (g : List Nat) (p : Nat × Nat) : List Nat := g.map fun k => if k = g.getD p.2 0 then g.getD p.1 0 else k
def groups (n : Nat) (es : List (Nat × Nat)) : List Nat := es.foldl relab (List.range n)
theorem relab_len (g : List Nat) (p : Nat × Nat) : (relab g p).length = g.length := by unfold relab; rw [List.length_map]
theorem groups_snoc (n : Nat) (es : List (Nat × Nat)) (p : Nat × Nat) : groups n (es ++ [p]) = relab (groups n es) p := by
  unfold groups
  rw [List.foldl_append]
  rfl
theorem groups_len (n : Nat) (es : List (Nat × Nat)) : (groups n es).length = n := by
  have key : ∀ (l : List (Nat × Nat)) (g : List Nat), (l.foldl relab g).length = g.length := by
    intro l
    induction l with
    | nil => intro g; rfl
    | cons p r ih =>
      intro g
      show (r.foldl relab (relab g p)).length = g.length
      rw [ih, relab_len]
  unfold groups
  rw [key, List.length_range]
theorem getD_of {l : List Nat} {i : Nat} (h : i < l.length) : l.getD i 0 = l[i] := by
  rw [List.getD_eq_getElem?_getD, List.getElem?_eq_getElem h]
  rfl
theorem relab_get {g : List Nat} {p : Nat × Nat} {i : Nat} (hi : i < g.length) : (relab g p).getD i 0 = if g.getD i 0 = g.getD p.2 0 then g.getD p.1 0 else g.getD i 0 := by
  unfold relab
  have h2 : i < (g.map fun k => if k = g.getD p.2 0 then g.getD p.1 0 else k).length := by rw [List.length_map]; exact hi
  rw [getD_of h2, List.getElem_map, getD_of hi]
/-- the k-th element of the relabelled row, as the program makes it -/
theorem groups_iff (n : Nat) (es : List (Nat × Nat)) (hb : ∀ p ∈ es, p.1 < n ∧ p.2 < n) : ∀ i j, i < n → j < n → ((groups n es).getD i 0 = (groups n es).getD j 0 ↔ Conn es i j) := by
  -- by induction from the back
  have key : ∀ (l : List (Nat × Nat)), (∀ p ∈ l, p.1 < n ∧ p.2 < n) → ∀ (pre : List (Nat × Nat)) (g : List Nat), (∀ a b, (a, b) ∈ pre → a < n ∧ b < n) → g.length = n → (∀ i j, i < n → j < n → (g.getD i 0 = g.getD j 0 ↔ Conn pre i j)) →
      ∀ i j, i < n → j < n → ((l.foldl relab g).getD i 0 = (l.foldl relab g).getD j 0 ↔ Conn (pre ++ l) i j) := by
    intro l
    induction l with
    | nil =>
      intro _ pre g _ _ h i j hi hj
      rw [List.append_nil]
      exact h i j hi hj
    | cons p r ih =>
      intro hb pre g hpre hl h i j hi hj
      have hp := hb p List.mem_cons_self
      have e : pre ++ p :: r = (pre ++ [p]) ++ r := by simp
      rw [e]
      refine ih (fun q hq => hb q (List.mem_cons_of_mem _ hq)) (pre ++ [p]) (relab g p) (fun a b hm => ?_) (by rw [relab_len]; exact hl) ?_ i j hi hj
      · rcases List.mem_append.mp hm with hm | hm
        · exact hpre a b hm
        · have q : (a, b) = p := by simpa using hm
          rw [show a = p.1 by rw [← q], show b = p.2 by rw [← q]]
          exact hp
      intro i j hi hj
      have sub : ∀ q ∈ pre, q ∈ pre ++ [p] := fun q hq => List.mem_append_left _ hq
      have edge : Conn (pre ++ [p]) p.1 p.2 := .fwd (a := p.1) (b := p.2) (List.mem_append_right _ (by simp)) .refl
      rw [relab_get (by rw [hl]; exact hi), relab_get (by rw [hl]; exact hj)]
      constructor
      · intro q
        by_cases c1 : g.getD i 0 = g.getD p.2 0
        · by_cases c2 : g.getD j 0 = g.getD p.2 0
          · exact ((h i j hi hj).mp (c1.trans c2.symm)).mono sub
          · rw [if_pos c1, if_neg c2] at q
            have x1 := ((h i p.2 hi hp.2).mp c1).mono sub
            have x2 := ((h p.1 j hp.1 hj).mp q).mono sub
            exact (x1.trans edge.symm).trans x2
        · by_cases c2 : g.getD j 0 = g.getD p.2 0
          · rw [if_neg c1, if_pos c2] at q
            have x1 := ((h i p.1 hi hp.1).mp q).mono sub
            have x2 := ((h p.2 j hp.2 hj).mp c2.symm).mono sub
            exact (x1.trans edge).trans x2
          · rw [if_neg c1, if_neg c2] at q
            exact ((h i j hi hj).mp q).mono sub
      · -- the relabelled row bears every pair
        have bears : ∀ a b, (a, b) ∈ pre ++ [p] → a < n → b < n → (if g.getD a 0 = g.getD p.2 0 then g.getD p.1 0 else g.getD a 0) = (if g.getD b 0 = g.getD p.2 0 then g.getD p.1 0 else g.getD b 0) := by
          intro a b hm ha hbb
          rcases List.mem_append.mp hm with hm | hm
          · have q := (h a b ha hbb).mpr (.fwd hm .refl)
            rw [q]
          · have q : (a, b) = p := by simpa using hm
            have e1 : a = p.1 := by rw [← q]
            have e2 : b = p.2 := by rw [← q]
            rw [e1, e2, if_pos (rfl : g.getD p.2 0 = g.getD p.2 0)]
            by_cases c : g.getD p.1 0 = g.getD p.2 0
            · rw [if_pos c]
            · rw [if_neg c]
        intro q
        have lt : ∀ k, Conn (pre ++ [p]) i k → k < n → (if g.getD i 0 = g.getD p.2 0 then g.getD p.1 0 else g.getD i 0) = (if g.getD k 0 = g.getD p.2 0 then g.getD p.1 0 else g.getD k 0) := by
          intro k hk
          induction hk with
          | refl => intro _; rfl
          | @fwd a b m _ ih2 =>
            intro hk
            by_cases ha : a < n
            · exact (ih2 ha).trans (bears a b m ha hk)
            · rcases List.mem_append.mp m with m' | m'
              · exact absurd (show a < n from (hpre a b m').1) ha
              · have q : (a, b) = p := by simpa using m'
                exact absurd (by rw [show a = p.1 by rw [← q]]; exact hp.1) ha
          | @bwd a b m _ ih2 =>
            intro hk
            by_cases hb' : b < n
            · exact (ih2 hb').trans (bears a b m hk hb').symm
            · rcases List.mem_append.mp m with m' | m'
              · exact absurd (show b < n from (hpre a b m').2) hb'
              · have q : (a, b) = p := by simpa using m'
                exact absurd (by rw [show b = p.2 by rw [← q]]; exact hp.2) hb'
        exact lt j q hj
  have base : ∀ i j, i < n → j < n → ((List.range n).getD i 0 = (List.range n).getD j 0 ↔ Conn [] i j) := by
    intro i j hi hj
    rw [getD_of (by rw [List.length_range]; exact hi), getD_of (by rw [List.length_range]; exact hj), List.getElem_range, List.getElem_range]
    constructor
    · intro e; rw [e]; exact .refl
    · intro c
      cases c with
      | refl => rfl
      | fwd m _ => cases m
      | bwd m _ => cases m
  intro i j hi hj
  exact key es hb [] (List.range n) (fun _ _ h => by cases h) List.length_range base i j hi hj

/-! ### parts -/
def cls (g : List Nat) (n i : Nat) : List Nat := (List.range n).filter fun j => decide (g.getD j 0 = g.getD i 0)
def nm (names : List Str) (k : Nat) : Str := names.getD k ⟨#[]⟩
def namesOf (names : List Str) (l : List Nat) : List Str := l.map (nm names)
/-- the law's way: a set of names that is not there yet -/
def partsTo (names : List Str) (g : List Nat) (n : Nat) : Nat → List (List Str)
  | 0 => []
  | i + 1 => if namesOf names (cls g n i) ∈ partsTo names g n i then partsTo names g n i else partsTo names g n i ++ [namesOf names (cls g n i)]
/-- the desk's way: marks that were not seen yet -/
def seenTo (names : List Str) (g : List Nat) (n : Nat) : Nat → List Nat × List (List Str)
  | 0 => ([], [])
  | i + 1 => if i ∈ (seenTo names g n i).1 then seenTo names g n i else ((seenTo names g n i).1 ++ cls g n i, (seenTo names g n i).2 ++ [namesOf names (cls g n i)])
theorem mem_cls {g : List Nat} {n i j : Nat} : j ∈ cls g n i ↔ j < n ∧ g.getD j 0 = g.getD i 0 := by
  unfold cls
  rw [List.mem_filter, List.mem_range, decide_eq_true_eq]
theorem cls_eq {g : List Nat} {n i j : Nat} (h : g.getD i 0 = g.getD j 0) : cls g n i = cls g n j := by
  unfold cls
  rw [h]
theorem nm_get {names : List Str} {k : Nat} (h : k < names.length) : nm names k = names[k] := by
  unfold nm
  rw [List.getD_eq_getElem?_getD, List.getElem?_eq_getElem h]
  rfl
theorem nm_inj {names : List Str} (nd : names.Nodup) {i j : Nat} (hi : i < names.length) (hj : j < names.length) (h : nm names i = nm names j) : i = j := by
  rw [nm_get hi, nm_get hj] at h
  exact (List.getElem_inj nd).mp h
theorem part_mem {names : List Str} {g : List Nat} {n : Nat} (nd : names.Nodup) (hn : names.length = n) {i j : Nat} (hi : i < n) (h : namesOf names (cls g n i) = namesOf names (cls g n j)) : g.getD j 0 = g.getD i 0 := by
  have m : nm names i ∈ namesOf names (cls g n i) := List.mem_map.mpr ⟨i, mem_cls.mpr ⟨hi, rfl⟩, rfl⟩
  rw [h] at m
  obtain ⟨k, hk, e⟩ := List.mem_map.mp m
  obtain ⟨hk1, hk2⟩ := mem_cls.mp hk
  have : k = i := nm_inj nd (by omega) (by omega) e
  rw [← this, hk2]
theorem parts_inv {names : List Str} {g : List Nat} {n : Nat} (nd : names.Nodup) (hn : names.length = n) : ∀ i, i ≤ n →
    (seenTo names g n i).2 = partsTo names g n i ∧ (∀ j, j ∈ (seenTo names g n i).1 ↔ j < n ∧ ∃ k, k < i ∧ g.getD j 0 = g.getD k 0) ∧ (∀ p, p ∈ partsTo names g n i ↔ ∃ k, k < i ∧ p = namesOf names (cls g n k)) := by
  intro i
  induction i with
  | zero => exact fun _ => ⟨rfl, fun j => ⟨(fun h => nomatch h), fun ⟨_, k, hk, _⟩ => absurd hk (Nat.not_lt_zero _)⟩, fun p => ⟨(fun h => nomatch h), fun ⟨k, hk, _⟩ => absurd hk (Nat.not_lt_zero _)⟩⟩
  | succ i ih =>
    intro hi
    obtain ⟨h1, h2, h3⟩ := ih (by omega)
    have hin : i < n := by omega
    have same : i ∈ (seenTo names g n i).1 ↔ namesOf names (cls g n i) ∈ partsTo names g n i := by
      rw [h2, h3]
      constructor
      · rintro ⟨_, k, hk, e⟩
        exact ⟨k, hk, by rw [cls_eq e]⟩
      · rintro ⟨k, hk, e⟩
        exact ⟨hin, k, hk, (part_mem nd hn hin e).symm⟩
    by_cases c : i ∈ (seenTo names g n i).1
    · have c' := same.mp c
      have e1 : seenTo names g n (i + 1) = seenTo names g n i := by
        show (if i ∈ (seenTo names g n i).1 then _ else _) = _
        rw [if_pos c]
      have e2 : partsTo names g n (i + 1) = partsTo names g n i := by
        show (if namesOf names (cls g n i) ∈ partsTo names g n i then _ else _) = _
        rw [if_pos c']
      rw [e1, e2]
      refine ⟨h1, fun j => ?_, fun p => ?_⟩
      · rw [h2]
        constructor
        · rintro ⟨hj, k, hk, e⟩
          exact ⟨hj, k, by omega, e⟩
        · rintro ⟨hj, k, hk, e⟩
          by_cases hki : k = i
          · obtain ⟨_, k2, hk2, e2⟩ := (h2 i).mp c
            exact ⟨hj, k2, hk2, by rw [e, hki, e2]⟩
          · exact ⟨hj, k, by omega, e⟩
      · rw [h3]
        constructor
        · rintro ⟨k, hk, e⟩
          exact ⟨k, by omega, e⟩
        · rintro ⟨k, hk, e⟩
          by_cases hki : k = i
          · obtain ⟨k2, hk2, e2⟩ := (h3 _).mp c'
            exact ⟨k2, hk2, by rw [e, hki, e2]⟩
          · exact ⟨k, by omega, e⟩
    · have c' : ¬ namesOf names (cls g n i) ∈ partsTo names g n i := fun z => c (same.mpr z)
      have e1 : seenTo names g n (i + 1) = ((seenTo names g n i).1 ++ cls g n i, (seenTo names g n i).2 ++ [namesOf names (cls g n i)]) := by
        show (if i ∈ (seenTo names g n i).1 then _ else _) = _
        rw [if_neg c]
      have e2 : partsTo names g n (i + 1) = partsTo names g n i ++ [namesOf names (cls g n i)] := by
        show (if namesOf names (cls g n i) ∈ partsTo names g n i then _ else _) = _
        rw [if_neg c']
      rw [e1, e2]
      refine ⟨by rw [h1], fun j => ?_, fun p => ?_⟩
      · show j ∈ (seenTo names g n i).1 ++ cls g n i ↔ _
        rw [List.mem_append, h2, mem_cls]
        constructor
        · rintro (⟨hj, k, hk, e⟩ | ⟨hj, e⟩)
          · exact ⟨hj, k, by omega, e⟩
          · exact ⟨hj, i, by omega, e⟩
        · rintro ⟨hj, k, hk, e⟩
          by_cases hki : k = i
          · exact .inr ⟨hj, by rw [e, hki]⟩
          · exact .inl ⟨hj, k, by omega, e⟩
      · rw [List.mem_append, h3]
        constructor
        · rintro (⟨k, hk, e⟩ | e)
          · exact ⟨k, by omega, e⟩
          · exact ⟨i, by omega, by simpa using e⟩
        · rintro ⟨k, hk, e⟩
          by_cases hki : k = i
          · exact .inr (by rw [e, hki]; simp)
          · exact .inl ⟨k, by omega, e⟩
theorem parts_eq {names : List Str} {g : List Nat} {n : Nat} (nd : names.Nodup) (hn : names.length = n) : (seenTo names g n n).2 = partsTo names g n n := (parts_inv nd hn n (Nat.le_refl _)).1
theorem partsTo_len (names : List Str) (g : List Nat) (n : Nat) : ∀ i, (partsTo names g n i).length ≤ i := by
  intro i
  induction i with
  | zero => exact Nat.le_refl _
  | succ i ih =>
    show (if namesOf names (cls g n i) ∈ partsTo names g n i then partsTo names g n i else partsTo names g n i ++ [namesOf names (cls g n i)]).length ≤ i + 1
    split
    · omega
    · rw [List.length_append, List.length_singleton]; omega
theorem seenTo_len (names : List Str) (g : List Nat) (n : Nat) : ∀ i, (seenTo names g n i).1.length ≤ i * n ∧ (seenTo names g n i).2.length ≤ i := by
  intro i
  induction i with
  | zero => exact ⟨Nat.zero_le _, Nat.le_refl _⟩
  | succ i ih =>
    have hc : (cls g n i).length ≤ n := by
      have := List.length_filter_le (fun j => decide (g.getD j 0 = g.getD i 0)) (List.range n)
      rw [List.length_range] at this
      exact this
    show (if i ∈ (seenTo names g n i).1 then seenTo names g n i else ((seenTo names g n i).1 ++ cls g n i, (seenTo names g n i).2 ++ [namesOf names (cls g n i)])).1.length ≤ (i + 1) * n ∧ (if i ∈ (seenTo names g n i).1 then seenTo names g n i else ((seenTo names g n i).1 ++ cls g n i, (seenTo names g n i).2 ++ [namesOf names (cls g n i)])).2.length ≤ i + 1
    rw [Nat.succ_mul]
    split
    · omega
    · rw [List.length_append, List.length_append, List.length_singleton]; omega

/-! ### reaching: one sweep over the pairs, and what a sweep without a change says -/
def sweep1 (s : List Bool × Bool) (p : Nat × Nat) : List Bool × Bool := if s.1.getD p.1 false = s.1.getD p.2 false then s else ((s.1.set p.1 true).set p.2 true, true)
/-- what holds of the marks found from i: i is, and what is, is joined to i -/
structure Found (es : List (Nat × Nat)) (n i : Nat) (t : List Bool) : Prop where
  len : t.length = n
  self : t.getD i false = true
  conn : ∀ j, t.getD j false = true → Conn es i j
theorem getD_setB {l : List Bool} {i j : Nat} {b : Bool} (hi : i < l.length) : (l.set i b).getD j false = if j = i then b else l.getD j false := by
  rw [List.getD_eq_getElem?_getD, List.getD_eq_getElem?_getD, List.getElem?_set]
  by_cases h : i = j
  · rw [if_pos h, if_pos h.symm, if_pos hi]; rfl
  · rw [if_neg h, if_neg (fun e => h e.symm)]
theorem found_start {es : List (Nat × Nat)} {n i : Nat} (hi : i < n) : Found es n i ((List.range n).map fun j => decide (j = i)) := by
  have q : ∀ j, ((List.range n).map fun j => decide (j = i)).getD j false = decide (j < n ∧ j = i) := by
    intro j
    rw [List.getD_eq_getElem?_getD, List.getElem?_map]
    by_cases h : j < n
    · rw [List.getElem?_range h]
      simp [h]
    · rw [List.getElem?_eq_none (by rw [List.length_range]; omega)]
      simp [h]
  refine ⟨by rw [List.length_map, List.length_range], ?_, fun j h => ?_⟩
  · rw [q]; simp [hi]
  · rw [q] at h
    have := (of_decide_eq_true h).2
    rw [this]; exact .refl
theorem found_sweep {es : List (Nat × Nat)} {n i : Nat} {t : List Bool} {p : Nat × Nat} (hp : p ∈ es) (h1 : p.1 < n) (h2 : p.2 < n) (F : Found es n i t) (hne : ¬ t.getD p.1 false = t.getD p.2 false) : Found es n i ((t.set p.1 true).set p.2 true) := by
  have l1 : p.1 < t.length := by rw [F.len]; exact h1
  have l2 : p.2 < (t.set p.1 true).length := by rw [List.length_set, F.len]; exact h2
  have q : ∀ j, ((t.set p.1 true).set p.2 true).getD j false = if j = p.2 then true else if j = p.1 then true else t.getD j false := fun j => by rw [getD_setB l2, getD_setB l1]
  -- one of the two was found
  have one : Conn es i p.1 ∧ Conn es i p.2 := by
    cases e1 : t.getD p.1 false with
    | true =>
      have c := F.conn _ e1
      exact ⟨c, .fwd (a := p.1) hp c⟩
    | false =>
      cases e2 : t.getD p.2 false with
      | true =>
        have c := F.conn _ e2
        exact ⟨.bwd (b := p.2) hp c, c⟩
      | false => exact absurd (by rw [e1, e2]) hne
  refine ⟨by rw [List.length_set, List.length_set]; exact F.len, ?_, fun j h => ?_⟩
  · rw [q]
    split
    · rfl
    · split
      · rfl
      · exact F.self
  · rw [q] at h
    by_cases c1 : j = p.2
    · rw [c1]; exact one.2
    · rw [if_neg c1] at h
      by_cases c2 : j = p.1
      · rw [c2]; exact one.1
      · rw [if_neg c2] at h
        exact F.conn j h
/-- how many are not found: falls at each change -/
def lack (t : List Bool) : Nat := t.countP fun b => !b
theorem lack_set_le {t : List Bool} {i : Nat} : lack (t.set i true) ≤ lack t := by
  unfold lack
  induction t generalizing i with
  | nil => exact Nat.le_refl _
  | cons b r ih =>
    cases i with
    | zero =>
      show List.countP (fun b => !b) (true :: r) ≤ List.countP (fun b => !b) (b :: r)
      rw [List.countP_cons, List.countP_cons]
      simp
    | succ i =>
      show List.countP (fun b => !b) (b :: r.set i true) ≤ List.countP (fun b => !b) (b :: r)
      rw [List.countP_cons, List.countP_cons]
      have := @ih i
      omega
theorem lack_set_lt {t : List Bool} {i : Nat} (h : i < t.length) (hf : t.getD i false = false) : lack (t.set i true) < lack t := by
  unfold lack
  induction t generalizing i with
  | nil => exact absurd h (Nat.not_lt_zero _)
  | cons b r ih =>
    cases i with
    | zero =>
      have : b = false := hf
      subst this
      show List.countP (fun b => !b) (true :: r) < List.countP (fun b => !b) (false :: r)
      rw [List.countP_cons, List.countP_cons]
      simp
    | succ i =>
      show List.countP (fun b => !b) (b :: r.set i true) < List.countP (fun b => !b) (b :: r)
      rw [List.countP_cons, List.countP_cons]
      have := @ih i (by simpa using h) (by simpa using hf)
      omega
theorem lack_sweep {t : List Bool} {p : Nat × Nat} (h1 : p.1 < t.length) (h2 : p.2 < t.length) (hne : ¬ t.getD p.1 false = t.getD p.2 false) : lack ((t.set p.1 true).set p.2 true) < lack t := by
  cases e1 : t.getD p.1 false with
  | false => exact Nat.lt_of_le_of_lt lack_set_le (lack_set_lt h1 e1)
  | true =>
    cases e2 : t.getD p.2 false with
    | true => exact absurd (by rw [e1, e2]) hne
    | false =>
      have hpp : ¬ p.2 = p.1 := fun q => by rw [q, e1] at e2; cases e2
      refine Nat.lt_of_lt_of_le (lack_set_lt (by rw [List.length_set]; exact h2) ?_) lack_set_le
      rw [getD_setB h1, if_neg hpp]
      exact e2
/-- when no pair parts the found from the others, all that is joined is found -/
theorem found_all {es : List (Nat × Nat)} {n i : Nat} {t : List Bool} (F : Found es n i t) (h : ∀ p ∈ es, t.getD p.1 false = t.getD p.2 false) {j : Nat} (c : Conn es i j) : t.getD j false = true := by
  induction c with
  | refl => exact F.self
  | @fwd a b m _ ih => rw [← h (a, b) m]; exact ih
  | @bwd a b m _ ih => rw [h (a, b) m]; exact ih
theorem found_iff {es : List (Nat × Nat)} {n i : Nat} {t : List Bool} (F : Found es n i t) (h : ∀ p ∈ es, t.getD p.1 false = t.getD p.2 false) (hb : ∀ p ∈ es, p.1 < n ∧ p.2 < n) (hi : i < n) :
    (List.range n).filter (fun j => t.getD j false) = cls (groups n es) n i := by
  unfold cls
  refine List.filter_congr fun j hj => ?_
  have hj' := List.mem_range.mp hj
  have q := groups_iff n es hb j i hj' hi
  cases e : t.getD j false with
  | true => exact (decide_eq_true (q.mpr (F.conn j e).symm)).symm
  | false =>
    refine (decide_eq_false fun z => ?_).symm
    have := found_all F h (q.mp z).symm
    rw [e] at this
    cases this
end K39
end

section
set_option Elab.async false
set_option autoImplicit false
/-! The law's own deeds can be done; its wrong deeds are refused. -/
namespace K39
open PySem

def word (k : Nat) : Str := ⟨#[109] ++ #[97 + k % 26]⟩
/-- the name of the mark with number n -/
def gname (n : Nat) : Str := word (if 3 < n then n + 9 else n)
def gnames (n : Nat) : List Str := (List.range n).map gname
structure Gen (m : Md) (i : Nat) : Prop where
  wf : Wf m
  names : m.marks = gnames m.marks.length
  few : m.marks.length ≤ 8
  rows : m.rows.length ≤ i
theorem gen0 : Gen md0 0 := ⟨wf0, rfl, Nat.zero_le _, Nat.le_refl _⟩
theorem gname_ok : ∀ n, n < 8 → isNameS (gname n) = true := by decide +kernel
theorem gname_new : ∀ n, n < 8 → ¬ gname n ∈ gnames n := by decide +kernel
theorem gnames_snoc (n : Nat) : gnames (n + 1) = gnames n ++ [gname n] := by
  unfold gnames
  rw [List.range_succ, List.map_append]
  rfl
theorem gnames_len (n : Nat) : (gnames n).length = n := by unfold gnames; rw [List.length_map, List.length_range]
theorem gen_step {m : Md} {i : Nat} (g : Gen m i) {e : Deed} (h : canDo m 0 e.d = true) (hm : ∀ s, e = .mark s → s = gname m.marks.length ∧ m.marks.length < 8) : Gen (step m e) (i + 1) := by
  refine ⟨wf_step g.wf h, ?_, ?_, ?_⟩
  · cases e with
    | mark s =>
      obtain ⟨e1, _⟩ := hm s rfl
      show m.marks ++ [s] = gnames (m.marks ++ [s]).length
      rw [List.length_append, List.length_singleton, gnames_snoc, ← g.names, e1]
    | read s t v => exact g.names
    | drop n => exact g.names
    | bound k => exact g.names
  · cases e with
    | mark s =>
      obtain ⟨_, e1⟩ := hm s rfl
      show (m.marks ++ [s]).length ≤ 8
      rw [List.length_append, List.length_singleton]
      omega
    | read s t v => exact g.few
    | drop n => exact g.few
    | bound k => exact g.few
  · have := g.rows
    cases e with
    | mark s => show m.rows.length ≤ i + 1; omega
    | read s t v =>
      show (m.rows ++ [_]).length ≤ i + 1
      rw [List.length_append, List.length_singleton]
      omega
    | drop n =>
      show (m.rows.filter _).length ≤ i + 1
      exact Nat.le_trans (List.length_filter_le _ _) (by omega)
    | bound k => show m.rows.length ≤ i + 1; omega
theorem canDo_cnt {m : Md} {c c' : Nat} {d : PyData} (h : canDo m c d = true) (hc : c' < 1000) : canDo m c' d = true := by
  unfold canDo at h ⊢
  simp only [Bool.and_eq_true, decide_eq_true_eq] at h ⊢
  exact ⟨⟨h.1.1, hc⟩, h.2⟩
/-- a deed that the law draws: it can be done, and leaves things in order -/
structure Good (m : Md) (i : Nat) (e : Deed) : Prop where
  can : ∀ c, c < 1000 → canDo m c e.d = true
  gen : Gen (step m e) (i + 1)
theorem good_mark {m : Md} {i : Nat} (g : Gen m i) (h : m.marks.length < 8) : Good m i (.mark (gname m.marks.length)) := by
  have c0 : ∀ c, c < 1000 → canDo m c (Deed.mark (gname m.marks.length)).d = true := fun c hc => by
    rw [canDo_mark]
    simp only [canMark, Bool.and_eq_true, Bool.not_eq_true', decide_eq_true_eq, decide_eq_false_iff_not]
    refine ⟨hc, ⟨gname_ok _ h, fun z => gname_new _ h ?_⟩, by omega⟩
    rw [← g.names]
    exact z
  exact ⟨c0, gen_step g (c0 0 (by decide)) fun s e => by cases e; exact ⟨rfl, h⟩⟩
theorem good_drop {m : Md} {i : Nat} (g : Gen m i) {r : Row} (h : r ∈ m.rows) : Good m i (.drop r.n) := by
  have c0 : ∀ c, c < 1000 → canDo m c (Deed.drop r.n).d = true := fun c hc => by
    rw [canDo_drop]
    simp only [canDrop, Bool.and_eq_true, decide_eq_true_eq, List.any_eq_true]
    exact ⟨hc, r, h, rfl⟩
  exact ⟨c0, gen_step g (c0 0 (by decide)) fun s e => by cases e⟩
theorem good_bound {m : Md} {i : Nat} (g : Gen m i) {k : Int} (h0 : 0 ≤ k) (h1 : k ≤ 20) : Good m i (.bound k) := by
  have c0 : ∀ c, c < 1000 → canDo m c (Deed.bound k).d = true := fun c hc => by
    rw [canDo_bound]
    simp only [canBound, Bool.and_eq_true, decide_eq_true_eq]
    exact ⟨hc, h0, h1⟩
  exact ⟨c0, gen_step g (c0 0 (by decide)) fun s e => by cases e⟩
theorem good_read {m : Md} {i : Nat} (g : Gen m i) (hi : i < 80) {a b : Nat} (ha : a < m.marks.length) (hb : b < m.marks.length) (hab : a ≠ b) {v : Int} (hv : -1000000 ≤ v ∧ v ≤ 1000000) :
    Good m i (.read m.marks[a] m.marks[b] v) := by
  have c0 : ∀ c, c < 1000 → canDo m c (Deed.read m.marks[a] m.marks[b] v).d = true := fun c hc => by
    rw [canDo_read]
    simp only [canRead, Bool.and_eq_true, Bool.not_eq_true', decide_eq_true_eq, decide_eq_false_iff_not]
    have := g.rows
    exact ⟨hc, ⟨⟨⟨⟨⟨g.wf.short _ (List.getElem_mem ha), g.wf.short _ (List.getElem_mem hb)⟩, List.getElem_mem ha⟩, List.getElem_mem hb⟩, fun z => hab ((List.getElem_inj g.wf.nd).mp z)⟩, hv⟩, by omega⟩
  exact ⟨c0, gen_step g (c0 0 (by decide)) fun s e => by cases e⟩

/-! ### wrong deeds -/
def one (m : Md) : Str := (m.marks ++ ([("ma" : Str), ("mb" : Str)] : List Str)).getD 0 ⟨#[]⟩
def other (m : Md) : Str := (m.marks ++ ([("ma" : Str), ("mb" : Str)] : List Str)).getD 1 ⟨#[]⟩
def bads (m : Md) : List PyData :=
  [.tuple [], .int 5, .str "mark", .tuple [.str "mark"], .tuple [.str "marks", .str "zz"], .tuple [.str "mark", .str (one m), .int 1], .tuple [.str "mark", .str ""], .tuple [.str "mark", .str "Zz"], .tuple [.str "mark", .str "abcdefghi"],
   .tuple [.str "mark", .int 7], .tuple [.str "read", .str (one m), .str (other m)], .tuple [.str "read", .str (one m), .str "zz", .int 1], .tuple [.str "read", .str "zz", .str (other m), .int 1], .tuple [.str "read", .str (one m), .str (one m), .int 1],
   .tuple [.str "read", .str (one m), .str (other m), .int 1000001], .tuple [.str "read", .str (one m), .str (other m), .int (-1000001)], .tuple [.str "read", .str (one m), .str (other m), .bool true], .tuple [.str "read", .int 0, .int 1, .int 5],
   .tuple [.str "drop", .int m.num], .tuple [.str "drop", .int (-1)], .tuple [.str "drop", .bool true], .tuple [.str "drop", .str "a"], .tuple [.str "bound", .int (-1)], .tuple [.str "bound", .int 21], .tuple [.str "bound", .bool true],
   .tuple [.str "bound", .int 1, .int 2], .tuple [.list [], .int 1]]
def wrongs (m : Md) : List PyData := bads m ++ m.marks.map fun s => .tuple [.str "mark", .str s]
theorem no_shape {m : Md} {c : Nat} {d : PyData} (h : isShaped d = false) : canDo m c d = false := by
  unfold canDo
  rw [h]
  rfl
theorem no_kind {m : Md} {c : Nat} {d : PyData} (h : canKind m d = false) : canDo m c d = false := by
  unfold canDo
  rw [h, Bool.and_false]
theorem zz_no : ∀ n, n ≤ 8 → ¬ ("zz" : Str) ∈ gnames n := by decide +kernel
theorem no_name {m : Md} {s : Str} (h : isNameS s = false) : canMark m (.str s) = false := by
  show (isNameS s && !decide (s ∈ m.marks) && decide (m.marks.length < 16)) = false
  rw [h]
  rfl
theorem had_name {m : Md} {s : Str} (h : s ∈ m.marks) : canMark m (.str s) = false := by
  show (isNameS s && !decide (s ∈ m.marks) && decide (m.marks.length < 16)) = false
  rw [decide_eq_true h]
  simp
theorem wrong_no {m : Md} {i : Nat} (g : Gen m i) {d : PyData} (h : d ∈ wrongs m) (c : Nat) : canDo m c d = false := by
  have zz : ¬ ("zz" : Str) ∈ m.marks := by
    rw [g.names]
    exact zz_no _ g.few
  have dzz : decide (("zz" : Str) ∈ m.marks) = false := decide_eq_false zz
  have lm : lenOf "mark" = some 2 := by unfold lenOf; rw [if_pos rfl]
  have lr : lenOf "read" = some 4 := by unfold lenOf; rw [if_neg n_rm, if_pos rfl]
  have lb : lenOf "bound" = some 2 := by unfold lenOf; rw [if_neg n_bm, if_neg n_br, if_neg n_bd, if_pos rfl]
  rcases List.mem_append.mp h with h | h
  · unfold bads at h
    simp only [List.mem_cons, List.not_mem_nil, or_false] at h
    rcases h with rfl | rfl | rfl | rfl | rfl | rfl | rfl | rfl | rfl | rfl | rfl | rfl | rfl | rfl | rfl | rfl | rfl | rfl | rfl | rfl | rfl | rfl | rfl | rfl | rfl | rfl | rfl
    · exact no_shape rfl
    · exact no_shape rfl
    · exact no_shape rfl
    · exact no_shape (by show decide (lenOf "mark" = some 1) = false; rw [lm]; decide)
    · exact no_shape (by decide +kernel)
    · exact no_shape (by show decide (lenOf "mark" = some 3) = false; rw [lm]; decide)
    · exact no_kind (by rw [kind_mark]; exact no_name (by decide +kernel))
    · exact no_kind (by rw [kind_mark]; exact no_name (by decide +kernel))
    · exact no_kind (by rw [kind_mark]; exact no_name (by decide +kernel))
    · exact no_kind (by rw [kind_mark]; rfl)
    · exact no_shape (by show decide (lenOf "read" = some 3) = false; rw [lr]; decide)
    · exact no_kind (by rw [kind_read]; unfold canRead; dsimp only; rw [dzz]; simp)
    · exact no_kind (by rw [kind_read]; unfold canRead; dsimp only; rw [dzz]; simp)
    · exact no_kind (by rw [kind_read]; unfold canRead; simp)
    · exact no_kind (by rw [kind_read]; unfold canRead; simp)
    · exact no_kind (by rw [kind_read]; unfold canRead; simp)
    · exact no_kind (by rw [kind_read]; rfl)
    · exact no_kind (by rw [kind_read]; rfl)
    · refine no_kind ?_
      rw [kind_drop]
      unfold canDrop
      rw [List.any_eq_false]
      intro r hr
      have := g.wf.nums r hr
      rw [decide_eq_true_eq]
      omega
    · refine no_kind ?_
      rw [kind_drop]
      unfold canDrop
      rw [List.any_eq_false]
      intro r hr
      rw [decide_eq_true_eq]
      omega
    · exact no_kind (by rw [kind_drop]; rfl)
    · exact no_kind (by rw [kind_drop]; rfl)
    · exact no_kind (by rw [kind_bound]; rfl)
    · exact no_kind (by rw [kind_bound]; rfl)
    · exact no_kind (by rw [kind_bound]; rfl)
    · exact no_shape (by show decide (lenOf "bound" = some 3) = false; rw [lb]; decide)
    · exact no_shape rfl
  · obtain ⟨s, hs, rfl⟩ := List.mem_map.mp h
    refine no_kind ?_
    rw [kind_mark]
    exact had_name hs

/-! ### a desk at one of its bounds -/
def run (m : Md) (es : List Deed) : Md := es.foldl step m
end K39
end

section
set_option Elab.async false
set_option linter.all false
set_option maxRecDepth 100000
set_option maxHeartbeats 2000000
/-! Readings evaluated: the frozen part F of the heap, data in it, what an expression yields (Pr), statements. -/
namespace K39
open PySem L2

/-! ### data in the frozen part -/
theorem rd_mono {F F' : Hp} {a : Addr} {u : HO} (e : Same F F') (h : Rd F a u) : Rd F' a u := by
  rcases h with h | ⟨o, h⟩
  · exact .inl (e _ _ h)
  · exact .inr ⟨o, e _ _ h⟩
theorem sqt_rd {K : PySem.W.Frag} {H : Hp} {a : Addr} {xs : List V} (h : Rd H a (.tup xs)) : SqT K H a xs := .inl h
mutual
inductive Dt (F : Hp) : V → PyData → Prop
  | bl (b : Bool) : Dt F (.bl b) (.bool b)
  | int (i : Int) : Dt F (.int i) (.int i)
  | str (x : Str) : Dt F (.str x) (.str x)
  | lst {a : Addr} {xs : List V} {ds : List PyData} : F a = some (.lst xs) → DtA F xs ds → Dt F (.ref a) (.list ds)
  | tup {a : Addr} {xs : List V} {ds : List PyData} : Rd F a (.tup xs) → DtA F xs ds → Dt F (.ref a) (.tuple ds)
inductive DtA (F : Hp) : List V → List PyData → Prop
  | nil : DtA F [] []
  | cons {v : V} {vs : List V} {d : PyData} {ds : List PyData} : Dt F v d → DtA F vs ds → DtA F (v :: vs) (d :: ds)
end
section
variable {F F' H : Hp} {v : V} {d : PyData} {vs ws : List V} {ds es : List PyData} {K : PySem.W.Frag}
mutual
theorem Dt.mono (e : Same F F') : ∀ {v : V} {d : PyData}, Dt F v d → Dt F' v d
  | _, _, .bl b => .bl b
  | _, _, .int i => .int i
  | _, _, .str x => .str x
  | _, _, .lst h r => .lst (e _ _ h) (DtA.mono e r)
  | _, _, .tup h r => .tup (rd_mono e h) (DtA.mono e r)
theorem DtA.mono (e : Same F F') : ∀ {vs : List V} {ds : List PyData}, DtA F vs ds → DtA F' vs ds
  | _, _, .nil => .nil
  | _, _, .cons h r => .cons (Dt.mono e h) (DtA.mono e r)
end
mutual
theorem Dt.dp (e : Same F H) : ∀ {v : V} {d : PyData}, Dt F v d → Dp K H v d
  | _, _, .bl b => .bl b
  | _, _, .int i => .int i
  | _, _, .str x => .str x
  | _, _, .lst h r => .lst (SqL.of (e _ _ h)) (DtA.dp e r)
  | _, _, .tup h r => .tup (sqt_rd (rd_mono e h)) (DtA.dp e r)
theorem DtA.dp (e : Same F H) : ∀ {vs : List V} {ds : List PyData}, DtA F vs ds → DpAll K H vs ds
  | _, _, .nil => .nil
  | _, _, .cons h r => .cons (Dt.dp e h) (DtA.dp e r)
end
theorem DtA.len (h : DtA F vs ds) : vs.length = ds.length := by
  induction ds generalizing vs with
  | nil => cases h; rfl
  | cons d r ih =>
    cases h with
    | cons _ h2 => simp only [List.length_cons]; rw [ih h2]
theorem DtA.get (h : DtA F vs ds) {i : Nat} {x : V} (e : vs[i]? = some x) : ∃ d, ds[i]? = some d ∧ Dt F x d := by
  induction ds generalizing vs i with
  | nil => cases h; simp at e
  | cons d r ih =>
    cases h with
    | cons h1 h2 =>
      cases i with
      | zero => exact ⟨d, rfl, by cases (Option.some.inj e); exact h1⟩
      | succ i => exact ih h2 (i := i) (by simpa using e)
theorem DtA.get' (h : DtA F vs ds) {i : Nat} {d : PyData} (e : ds[i]? = some d) : ∃ x, vs[i]? = some x ∧ Dt F x d := by
  induction ds generalizing vs i with
  | nil => simp at e
  | cons d' r ih =>
    cases h with
    | cons h1 h2 =>
      cases i with
      | zero => exact ⟨_, rfl, by cases (Option.some.inj e); exact h1⟩
      | succ i => exact ih h2 (i := i) (by simpa using e)
theorem DtA.append (h : DtA F vs ds) (h' : DtA F ws es) : DtA F (vs ++ ws) (ds ++ es) := by
  induction ds generalizing vs with
  | nil => cases h; exact h'
  | cons d r ih =>
    cases h with
    | cons h1 h2 => exact .cons h1 (ih h2)
theorem DtA.snoc (h : DtA F vs ds) (h' : Dt F v d) : DtA F (vs ++ [v]) (ds ++ [d]) := h.append (.cons h' .nil)
theorem DtA.take (h : DtA F vs ds) (n : Nat) : DtA F (vs.take n) (ds.take n) := by
  induction ds generalizing vs n with
  | nil => cases h; simp; exact .nil
  | cons d r ih =>
    cases h with
    | cons h1 h2 =>
      cases n with
      | zero => exact .nil
      | succ n => exact .cons h1 (ih h2 n)
theorem DtA.drop (h : DtA F vs ds) (n : Nat) : DtA F (vs.drop n) (ds.drop n) := by
  induction ds generalizing vs n with
  | nil => cases h; simp; exact .nil
  | cons d r ih =>
    cases h with
    | cons h1 h2 =>
      cases n with
      | zero => exact .cons h1 h2
      | succ n => exact ih h2 n
theorem DtA.strs {ss : List Str} (h : DtA F vs (ss.map PyData.str)) : vs = ss.map V.str := by
  induction ss generalizing vs with
  | nil => cases h; rfl
  | cons s r ih =>
    cases h with
    | cons h1 h2 => cases h1; rw [ih h2]; rfl
theorem DtA.of_strs {ss : List Str} : DtA F (ss.map V.str) (ss.map PyData.str) := by
  induction ss with
  | nil => exact .nil
  | cons s r ih => exact .cons (.str s) ih
theorem DtA.ints {ns : List Int} (h : DtA F vs (ns.map PyData.int)) : vs = ns.map V.int := by
  induction ns generalizing vs with
  | nil => cases h; rfl
  | cons s r ih =>
    cases h with
    | cons h1 h2 => cases h1; rw [ih h2]; rfl
theorem DtA.of_ints {ns : List Int} : DtA F (ns.map V.int) (ns.map PyData.int) := by
  induction ns with
  | nil => exact .nil
  | cons s r ih => exact .cons (.int s) ih
theorem DtA.bools {bs : List Bool} (h : DtA F vs (bs.map PyData.bool)) : vs = bs.map V.bl := by
  induction bs generalizing vs with
  | nil => cases h; rfl
  | cons s r ih =>
    cases h with
    | cons h1 h2 => cases h1; rw [ih h2]; rfl
theorem DtA.map {α : Type} {l : List α} {f : α → V} {g : α → PyData} (h : ∀ x ∈ l, Dt F (f x) (g x)) : DtA F (l.map f) (l.map g) := by
  induction l with
  | nil => exact .nil
  | cons a r ih => exact .cons (h a List.mem_cons_self) (ih fun x hx => h x (List.mem_cons_of_mem _ hx))
end

/-! ### worlds -/
/-- F grows at new addresses alone; all of H but M is kept -/
structure Gw (M : List Addr) (F H F' H' : Hp) : Prop where
  ff : Same F F'
  new : ∀ b, H b ≠ none → F' b = F b
  fh : Same F' H'
  keep : ∀ b o, b ∉ M → H b = some o → H' b = some o
  there : ∀ b, H b ≠ none → H' b ≠ none
section
variable {M N : List Addr} {F H F1 H1 F2 H2 H' : Hp} {p : Addr} {o u : HO}
theorem nn {H : Hp} {p : Addr} {o : HO} (h : H p = some o) : H p ≠ none := by rw [h]; exact fun z => nomatch z
theorem Gw.refl (h : Same F H) : Gw M F H F H := ⟨Same.refl _, fun _ _ => rfl, h, fun _ _ _ e => e, fun _ e => e⟩
theorem Gw.trans (a : Gw M F H F1 H1) (b : Gw M F1 H1 F2 H2) : Gw M F H F2 H2 :=
  ⟨a.ff.trans b.ff, fun x h => (b.new x (a.there x h)).trans (a.new x h), b.fh, fun x o hx e => b.keep x o hx (a.keep x o hx e), fun x h => b.there x (a.there x h)⟩
theorem Gw.mono (a : Gw M F H F1 H1) (h : ∀ x ∈ M, x ∈ N) : Gw N F H F1 H1 := ⟨a.ff, a.new, a.fh, fun x o hx e => a.keep x o (fun z => hx (h x z)) e, a.there⟩
theorem Gw.pure (a : Gw [] F H F1 H1) : Gw N F H F1 H1 := a.mono fun _ h => nomatch h
theorem Gw.keep0 (a : Gw [] F H F1 H1) {b : Addr} {o : HO} (h : H b = some o) : H1 b = some o := a.keep b o (fun z => nomatch z) h
theorem Gw.fnone (a : Gw M F H F1 H1) {b : Addr} (h : H b ≠ none) (hf : F b = none) : F1 b = none := (a.new b h).trans hf
theorem Gw.back (a : Gw M F H F1 H1) {b : Addr} (h : H1 b = none) : H b = none := by
  cases e : H b with
  | none => rfl
  | some o => exact absurd h (a.there b (nn e))
theorem same_fnone (h : Same F H) (hp : H p = none) : F p = none := h.free hp
/-- a new object, frozen at once -/
theorem Gw.frz (a : Gw M F H F1 H1) (hp : H1 p = none) : Gw M F H (upd F1 p o) (upd H1 p o) := by
  have fp := same_fnone a.fh hp
  refine ⟨fun b u e => ?_, fun b e => ?_, fun b u e => ?_, fun b u hb e => ?_, fun b e => ?_⟩
  · have q := a.ff b u e
    rw [upd_ne (ne_of_none q fp)]; exact q
  · have q : b ≠ p := fun z => a.there b e (z ▸ hp)
    rw [upd_ne q]; exact a.new b e
  · by_cases hb : b = p
    · subst hb; rw [upd_same] at e ⊢; exact e
    · rw [upd_ne hb] at e ⊢; exact a.fh b u e
  · have q := a.keep b u hb e
    rw [upd_ne (ne_of_none q hp)]; exact q
  · have q : b ≠ p := fun z => a.there b e (z ▸ hp)
    rw [upd_ne q]; exact a.there b e
/-- a new object, not frozen -/
theorem Gw.fresh (a : Gw M F H F1 H1) (hp : H1 p = none) : Gw M F H F1 (upd H1 p o) := by
  have fp := same_fnone a.fh hp
  refine ⟨a.ff, a.new, fun b u e => ?_, fun b u hb e => ?_, fun b e => ?_⟩
  · rw [upd_ne (ne_of_none e fp)]; exact a.fh b u e
  · have q := a.keep b u hb e
    rw [upd_ne (ne_of_none q hp)]; exact q
  · have q : b ≠ p := fun z => a.there b e (z ▸ hp)
    rw [upd_ne q]; exact a.there b e
/-- what is not frozen and was not there at the start (or is one of M) changes -/
theorem Gw.write (a : Gw M F H F1 H1) (fp : F1 p = none) (h0 : H p = none ∨ p ∈ M) : Gw M F H F1 (upd H1 p o) := by
  refine ⟨a.ff, a.new, fun b u e => ?_, fun b u hb e => ?_, fun b e => ?_⟩
  · rw [upd_ne (ne_of_none e fp)]; exact a.fh b u e
  · have q : b ≠ p := fun z => by
      rcases h0 with h0 | h0
      · rw [z, h0] at e; cases e
      · exact hb (z ▸ h0)
    rw [upd_ne q]; exact a.keep b u hb e
  · by_cases hb : b = p
    · rw [hb, upd_same]; exact fun z => nomatch z
    · rw [upd_ne hb]; exact a.there b e
/-- what was not there at the start is frozen as it stands -/
theorem Gw.freeze (a : Gw M F H F1 H1) (fp : F1 p = none) (h0 : H p = none) (hp : H1 p = some o) : Gw M F H (upd F1 p o) H1 := by
  refine ⟨fun b u e => ?_, fun b e => ?_, fun b u e => ?_, a.keep, a.there⟩
  · have q := a.ff b u e
    rw [upd_ne (ne_of_none q fp)]; exact q
  · have q : b ≠ p := fun z => e (z ▸ h0)
    rw [upd_ne q]; exact a.new b e
  · by_cases hb : b = p
    · subst hb; rw [upd_same] at e; cases e; exact hp
    · rw [upd_ne hb] at e; exact a.fh b u e
end

/-- what stands besides, and what may change -/
structure Wd where
  M : List Addr
  own : List Addr
  I : Hp → Hp → Prop
  sub : ∀ x ∈ M, x ∈ own
  al : ∀ F H, I F H → ∀ x ∈ own, H x ≠ none
  st' : ∀ F H F' H', Same F F' → (∀ x ∈ own, F' x = F x ∧ H' x = H x) → I F H → I F' H'
theorem Wd.st (W : Wd) (F H F' H' : Hp) (g : Gw [] F H F' H') (i : W.I F H) : W.I F' H' := W.st' F H F' H' g.ff (fun x hx => by
  have q := W.al F H i x hx
  refine ⟨g.new x q, ?_⟩
  cases e : H x with
  | none => exact absurd e q
  | some o => exact g.keep0 e) i
def w0 : Wd := ⟨[], [], fun _ _ => True, fun _ h => h, fun _ _ _ _ h => (fun z => nomatch h), fun _ _ _ _ _ _ _ => True.intro⟩
theorem Wd.ne (W : Wd) {F H : Hp} (i : W.I F H) {p : Addr} (h : H p = none) : p ∉ W.own := fun z => W.al F H i p z h
theorem Wd.neM (W : Wd) {F H : Hp} (i : W.I F H) {p : Addr} (h : H p = none) : p ∉ W.M := fun z => W.ne i h (W.sub p z)
theorem Wd.wr (W : Wd) {F H : Hp} (i : W.I F H) {p : Addr} (hp : p ∉ W.own) {o : HO} : W.I F (upd H p o) :=
  W.st' F H F (upd H p o) (Same.refl F) (fun x hx => ⟨rfl, upd_ne fun z => hp (z ▸ hx)⟩) i
theorem Wd.fz (W : Wd) {F H : Hp} (i : W.I F H) {p : Addr} (fp : F p = none) (hp : p ∉ W.own) {o : HO} : W.I (upd F p o) H :=
  W.st' F H (upd F p o) H (fun b u e => by rw [upd_ne (ne_of_none e fp)]; exact e) (fun x hx => ⟨upd_ne fun z => hp (z ▸ hx), rfl⟩) i
/-- what is known of a value -/
inductive Ar where
  | raw (v : V)
  | dt (d : PyData)
  | ex (P : PyData → Prop)
  | fn (P : Hp → V → Prop) (m : ∀ F F' v, Same F F' → P F v → P F' v)
def Ar.sat (F : Hp) : Ar → V → Prop
  | .raw w, v => v = w
  | .dt d, v => Dt F v d
  | .ex P, v => ∃ d, Dt F v d ∧ P d
  | .fn P _, v => P F v
theorem Ar.mono {F F' : Hp} (e : Same F F') : ∀ {a : Ar} {v : V}, a.sat F v → a.sat F' v
  | .raw _, _, h => h
  | .dt _, _, h => Dt.mono e h
  | .ex _, _, ⟨d, h, p⟩ => ⟨d, h.mono e, p⟩
  | .fn _ m, _, h => m _ _ _ e h
def ArL (F : Hp) : List Ar → List V → Prop
  | [], vs => vs = []
  | a :: as, vs => ∃ v r, vs = v :: r ∧ a.sat F v ∧ ArL F as r
theorem ArL.mono {F F' : Hp} (e : Same F F') : ∀ {as : List Ar} {vs : List V}, ArL F as vs → ArL F' as vs
  | [], _, h => h
  | _ :: _, _, ⟨v, r, h, a, b⟩ => ⟨v, r, h, Ar.mono e a, ArL.mono e b⟩
/-- an expression: from any state that grew from (F, H) -/
def Pr (W : Wd) (te : TE) (σ : L2.St) (F H : Hp) (a : Ar) : Prop :=
  ∀ F1 H1, Gw W.M F H F1 H1 → W.I F1 H1 → ∀ Q : VK, (∀ F2 H2 v, Gw W.M F1 H1 F2 H2 → W.I F2 H2 → a.sat F2 v → Q v H2) → te σ H1 Q
def PrA (W : Wd) (ta : TA) (σ : L2.St) (F H : Hp) (as : List Ar) : Prop :=
  ∀ F1 H1, Gw W.M F H F1 H1 → W.I F1 H1 → ∀ Q : List V → Hp → Prop, (∀ F2 H2 vs, Gw W.M F1 H1 F2 H2 → W.I F2 H2 → ArL F2 as vs → Q vs H2) → ta σ H1 Q
def PrT (W : Wd) (tt : TT) (σ : L2.St) (F H : Hp) (b : Bool) : Prop :=
  ∀ F1 H1, Gw W.M F H F1 H1 → W.I F1 H1 → ∀ Q : Bool → Hp → Prop, (∀ F2 H2, Gw W.M F1 H1 F2 H2 → W.I F2 H2 → Q b H2) → tt σ H1 Q
section
variable {W : Wd} {σ : L2.St} {F H F1 H1 : Hp} {te ta tb tc : TE} {tl tr : TA} {t u : TT} {a b c : Ar} {as : List Ar} {v w : V} {d e : PyData} {r : R2} {K : PySem.W.Frag}
theorem Pr.mono (g : Gw W.M F H F1 H1) (h : Pr W te σ F H a) : Pr W te σ F1 H1 a := fun F2 H2 g2 i Q q => h F2 H2 (g.trans g2) i Q q
theorem PrA.mono (g : Gw W.M F H F1 H1) (h : PrA W tl σ F H as) : PrA W tl σ F1 H1 as := fun F2 H2 g2 i Q q => h F2 H2 (g.trans g2) i Q q
theorem PrT.mono {b : Bool} (g : Gw W.M F H F1 H1) (h : PrT W t σ F H b) : PrT W t σ F1 H1 b := fun F2 H2 g2 i Q q => h F2 H2 (g.trans g2) i Q q
theorem Pr.imp (h : Pr W te σ F H a) (f : ∀ F v, a.sat F v → b.sat F v) : Pr W te σ F H b := fun F1 H1 g i Q q => h F1 H1 g i Q fun F2 H2 v g2 i2 s => q F2 H2 v g2 i2 (f F2 v s)
/-- one after the other -/
theorem pr_bind {k : V → TE} (h : Pr W te σ F H a) (hk : ∀ F1 H1 v, Gw W.M F H F1 H1 → W.I F1 H1 → a.sat F1 v → Pr W (k v) σ F1 H1 b) : Pr W (fun σ H Q => te σ H fun x H1 => k x σ H1 Q) σ F H b :=
  fun F1 H1 g i Q q => h F1 H1 g i _ fun F2 H2 v g2 i2 s => hk F2 H2 v (g.trans g2) i2 s F2 H2 (Gw.refl g2.fh) i2 Q fun F3 H3 w g3 i3 s3 => q F3 H3 w (g2.trans g3) i3 s3
theorem pr_var {i : Nat} (h : σ[i]? = some (some v)) : Pr W (tVar i) σ F H (.raw v) := fun F1 H1 g i Q q => ⟨v, h, q F1 H1 v (Gw.refl g.fh) i rfl⟩
theorem pr_dt {i : Nat} (h : σ[i]? = some (some v)) (hd : Dt F v d) : Pr W (tVar i) σ F H (.dt d) := fun F1 H1 g i Q q => ⟨v, h, q F1 H1 v (Gw.refl g.fh) i (hd.mono g.ff)⟩
theorem pr_c : Pr W (tC v) σ F H (.raw v) := fun F1 H1 g i Q q => q F1 H1 v (Gw.refl g.fh) i rfl
theorem pr_int {n : Int} : Pr W (tC (.int n)) σ F H (.dt (.int n)) := fun F1 H1 g i Q q => q F1 H1 _ (Gw.refl g.fh) i (.int n)
theorem pr_str {x : Str} : Pr W (tC (.str x)) σ F H (.dt (.str x)) := fun F1 H1 g i Q q => q F1 H1 _ (Gw.refl g.fh) i (.str x)
theorem pr_bl {x : Bool} : Pr W (tC (.bl x)) σ F H (.dt (.bool x)) := fun F1 H1 g i Q q => q F1 H1 _ (Gw.refl g.fh) i (.bl x)
theorem pra_nil : PrA W tNil σ F H [] := fun F1 H1 g i Q q => q F1 H1 [] (Gw.refl g.fh) i rfl
theorem pra_cons (h : Pr W te σ F H a) (hr : PrA W tl σ F H as) : PrA W (tCons te tl) σ F H (a :: as) := fun F1 H1 g i Q q =>
  h F1 H1 g i _ fun F2 H2 v g2 i2 s => hr F2 H2 (g.trans g2) i2 _ fun F3 H3 vs g3 i3 s3 => q F3 H3 (v :: vs) (g2.trans g3) i3 ⟨v, vs, rfl, Ar.mono g3.ff s, s3⟩
/-- a call whose promise takes what is known of the arguments to what is known of the value -/
def Sg (W : Wd) (sp : Sp) (as : List Ar) (a : Ar) : Prop :=
  ∀ F H vs, Same F H → W.I F H → ArL F as vs → ∀ (Q : VK) (E : XK), (∀ F' H' v, Gw W.M F H F' H' → W.I F' H' → a.sat F' v → Q v H') → sp vs H Q E
theorem pr_call {sp : Sp} {E : XK} (s : Sg W sp as a) (h : PrA W tl σ F H as) : Pr W (tCall sp [] E tl) σ F H a := fun F1 H1 g i Q q =>
  h F1 H1 g i _ fun F2 H2 vs g2 i2 s2 => by
    show sp (vs ++ []) H2 Q E
    rw [List.append_nil]
    exact s F2 H2 vs g2.fh i2 s2 Q E fun F3 H3 v g3 i3 s3 => q F3 H3 v (g2.trans g3) i3 s3
/-- o.m(..), o an instance that stands -/
theorem pr_meth {sp : Sp} {E : XK} {C : Addr} {m : Str} {p : Addr} (s : Sg W sp (.raw (.ref p) :: as) a) (ho : Pr W te σ F H (.raw (.ref p))) (hp : ∀ F H, W.I F H → ∃ dx fs, H p = some (.ins C dx fs) ∧ fs.lookup m = none) (h : PrA W tl σ F H as) :
    Pr W (tMeth C m sp [] E te tl) σ F H a := fun F1 H1 g i Q q =>
  ho F1 H1 g i _ fun F2 H2 v g2 i2 s2 => by
    obtain ⟨dx, fs, e1, e2⟩ := hp F2 H2 i2
    refine ⟨p, dx, fs, s2, e1, e2, h F2 H2 (g.trans g2) i2 _ fun F3 H3 vs g3 i3 s3 => ?_⟩
    show sp (v :: (vs ++ [])) H3 Q E
    rw [List.append_nil]
    exact s F3 H3 (v :: vs) g3.fh i3 ⟨v, vs, rfl, s2, s3⟩ Q E fun F4 H4 w g4 i4 s4 => q F4 H4 w ((g2.trans g3).trans g4) i4 s4
/-- a reading by values -/
def RvL (W : Wd) (r : List V → Hp → VK → Prop) (F H : Hp) (vs : List V) (a : Ar) : Prop := ∀ F1 H1, Gw W.M F H F1 H1 → W.I F1 H1 → ∀ Q : VK, (∀ F2 H2 v, Gw W.M F1 H1 F2 H2 → W.I F2 H2 → a.sat F2 v → Q v H2) → r vs H1 Q
/-- a built-in called -/
theorem pr_cb {rl : List V → Hp → VK → Prop} (h : PrA W tl σ F H as) (hr : ∀ F1 H1 vs, Same F1 H1 → W.I F1 H1 → ArL F1 as vs → ∀ Q : VK, (∀ F2 H2 v, Gw [] F1 H1 F2 H2 → a.sat F2 v → Q v H2) → rl vs H1 Q) : Pr W (tCB rl tl) σ F H a := fun F1 H1 g i Q q =>
  h F1 H1 g i _ fun F2 H2 vs g2 i2 s2 => hr F2 H2 vs g2.fh i2 s2 Q fun F3 H3 v g3 s3 => q F3 H3 v (g2.trans g3.pure) (W.st _ _ _ _ g3 i2) s3
/-- an operator -/
theorem pr_op (ha : Pr W ta σ F H a) (hb : Pr W tb σ F H b) (hr : ∀ F1 H1 x y, Same F1 H1 → W.I F1 H1 → a.sat F1 x → b.sat F1 y → ∀ Q : VK, (∀ F2 H2 v, Gw [] F1 H1 F2 H2 → c.sat F2 v → Q v H2) → r x y H1 Q) : Pr W (tOp r ta tb) σ F H c := fun F1 H1 g i Q q =>
  ha F1 H1 g i _ fun F2 H2 x g2 i2 s2 => hb F2 H2 (g.trans g2) i2 _ fun F3 H3 y g3 i3 s3 => hr F3 H3 x y g3.fh i3 (Ar.mono g3.ff s2) s3 Q fun F4 H4 v g4 s4 => q F4 H4 v ((g2.trans g3).trans g4.pure) (W.st _ _ _ _ g4 i3) s4
theorem pr_un {ru : V → Hp → VK → Prop} (ha : Pr W ta σ F H a) (hr : ∀ F1 H1 x, Same F1 H1 → W.I F1 H1 → a.sat F1 x → ∀ Q : VK, (∀ F2 H2 v, Gw [] F1 H1 F2 H2 → c.sat F2 v → Q v H2) → ru x H1 Q) : Pr W (tUn ru ta) σ F H c := fun F1 H1 g i Q q =>
  ha F1 H1 g i _ fun F2 H2 x g2 i2 s2 => hr F2 H2 x g2.fh i2 s2 Q fun F4 H4 v g4 s4 => q F4 H4 v (g2.trans g4.pure) (W.st _ _ _ _ g4 i2) s4
end
end K39
end

section
set_option Elab.async false
set_option linter.all false
set_option maxRecDepth 100000
set_option maxHeartbeats 2000000
namespace K39
open PySem L2

section
variable {W : Wd} {σ : L2.St} {F H F1 H1 : Hp} {te ta tb tc : TE} {tl tr : TA} {t u : TT} {a b c : Ar} {as : List Ar} {v w : V} {d e : PyData} {r : R2} {K : PySem.W.Frag}

theorem sz1000 {n : Nat} (h : n ≤ 1000) : n ≤ sizeLine := Nat.le_of_lt (small1000 h)
theorem sz4000 {n : Nat} (h : n ≤ 10000) : n < sizeLine := Nat.lt_of_le_of_lt h (by decide)
theorem g0 (h : Same F H) : Gw W.M F H F H := Gw.refl h

/-! ### operators on ints -/
theorem pr_I {g : Int → Int → V} {gd : PyData} {i j : Int} (hg : ∀ F, Dt F (g i j) gd) (ha : Pr W ta σ F H (.dt (.int i))) (hb : Pr W tb σ F H (.dt (.int j))) : Pr W (tOp (rI0 g) ta tb) σ F H (.dt gd) :=
  pr_op ha hb fun F1 H1 x y sf _ hx hy Q q => by
    cases hx; cases hy
    exact ⟨i, j, rfl, rfl, q F1 H1 _ (Gw.refl sf) (hg F1)⟩
theorem pr_Ic {C : Int → Int → Prop} {g : Int → Int → V} {gd : PyData} {i j : Int} (hg : ∀ F, Dt F (g i j) gd) (hc : C i j) (ha : Pr W ta σ F H (.dt (.int i))) (hb : Pr W tb σ F H (.dt (.int j))) : Pr W (tOp (rI C g) ta tb) σ F H (.dt gd) :=
  pr_op ha hb fun F1 H1 x y sf _ hx hy Q q => by
    cases hx; cases hy
    exact ⟨i, j, rfl, rfl, hc, q F1 H1 _ (Gw.refl sf) (hg F1)⟩
theorem pr_add {i j : Int} (ha : Pr W ta σ F H (.dt (.int i))) (hb : Pr W tb σ F H (.dt (.int j))) : Pr W (tOp (rI0 fun i j => .int (i + j)) ta tb) σ F H (.dt (.int (i + j))) := pr_I (fun _ => .int _) ha hb
theorem pr_sub {i j : Int} (ha : Pr W ta σ F H (.dt (.int i))) (hb : Pr W tb σ F H (.dt (.int j))) : Pr W (tOp (rI0 fun i j => .int (i - j)) ta tb) σ F H (.dt (.int (i - j))) := pr_I (fun _ => .int _) ha hb
/-- the left factor written -/
theorem pr_mul {i j : Int} (h : -(2 ^ 64) < i ∧ i < 2 ^ 64) (ha : Pr W ta σ F H (.dt (.int i))) (hb : Pr W tb σ F H (.dt (.int j))) : Pr W (tOp (rI CMul fun i j => .int (i * j)) ta tb) σ F H (.dt (.int (i * j))) := pr_Ic (fun _ => .int _) (.inl h) ha hb
/-- the right factor written -/
theorem pr_mulR {i j : Int} (h : -(2 ^ 64) < j ∧ j < 2 ^ 64) (ha : Pr W ta σ F H (.dt (.int i))) (hb : Pr W tb σ F H (.dt (.int j))) : Pr W (tOp (rI CMul fun i j => .int (i * j)) ta tb) σ F H (.dt (.int (i * j))) := pr_Ic (fun _ => .int _) (.inr h) ha hb
theorem pr_mod {i j : Int} (h : 0 < j) (ha : Pr W ta σ F H (.dt (.int i))) (hb : Pr W tb σ F H (.dt (.int j))) : Pr W (tOp (rI (fun _ j => 0 < j) fun i j => .int (i % j)) ta tb) σ F H (.dt (.int (i % j))) := pr_Ic (fun _ => .int _) h ha hb
theorem pr_lt {i j : Int} (ha : Pr W ta σ F H (.dt (.int i))) (hb : Pr W tb σ F H (.dt (.int j))) : Pr W (tOp (rI0 fun i j => .bl (decide (i < j))) ta tb) σ F H (.dt (.bool (decide (i < j)))) := pr_I (fun _ => .bl _) ha hb
theorem pr_le {i j : Int} (ha : Pr W ta σ F H (.dt (.int i))) (hb : Pr W tb σ F H (.dt (.int j))) : Pr W (tOp (rI0 fun i j => .bl (decide (i ≤ j))) ta tb) σ F H (.dt (.bool (decide (i ≤ j)))) := pr_I (fun _ => .bl _) ha hb
theorem pr_gt {i j : Int} (ha : Pr W ta σ F H (.dt (.int i))) (hb : Pr W tb σ F H (.dt (.int j))) : Pr W (tOp (rI0 fun i j => .bl (decide (j < i))) ta tb) σ F H (.dt (.bool (decide (j < i)))) := pr_I (fun _ => .bl _) ha hb
theorem pr_ge {i j : Int} (ha : Pr W ta σ F H (.dt (.int i))) (hb : Pr W tb σ F H (.dt (.int j))) : Pr W (tOp (rI0 fun i j => .bl (decide (j ≤ i))) ta tb) σ F H (.dt (.bool (decide (j ≤ i)))) := pr_I (fun _ => .bl _) ha hb
theorem pr_neg {i : Int} (ha : Pr W ta σ F H (.dt (.int i))) : Pr W (tUn (rU fun i => .int (-i)) ta) σ F H (.dt (.int (-i))) :=
  pr_un ha fun F1 H1 x sf _ hx Q q => by
    cases hx
    exact ⟨i, rfl, q F1 H1 _ (Gw.refl sf) (.int _)⟩
theorem pr_to (h : Pr W te σ F H (.dt d)) (he : d = e) : Pr W te σ F H (.dt e) := he ▸ h

/-! ### == and != of scalars -/
theorem dec_int (i j : Int) : decide (V.int i = V.int j) = decide (i = j) := by by_cases h : i = j <;> simp [h]
theorem dec_str (i j : Str) : decide (V.str i = V.str j) = decide (i = j) := by by_cases h : i = j <;> simp [h]
theorem dec_bl (i j : Bool) : decide (V.bl i = V.bl j) = decide (i = j) := by by_cases h : i = j <;> simp [h]
theorem pr_eqI {i j : Int} (ha : Pr W ta σ F H (.dt (.int i))) (hb : Pr W tb σ F H (.dt (.int j))) : Pr W (tOp rEq ta tb) σ F H (.dt (.bool (decide (i = j)))) :=
  pr_op ha hb fun F1 H1 x y sf _ hx hy Q q => by
    cases hx; cases hy
    exact ⟨rfl, by rw [dec_int]; exact q F1 H1 _ (Gw.refl sf) (.bl _)⟩
theorem pr_neI {i j : Int} (ha : Pr W ta σ F H (.dt (.int i))) (hb : Pr W tb σ F H (.dt (.int j))) : Pr W (tOp rNe ta tb) σ F H (.dt (.bool (!decide (i = j)))) :=
  pr_op ha hb fun F1 H1 x y sf _ hx hy Q q => by
    cases hx; cases hy
    exact ⟨rfl, by rw [dec_int]; exact q F1 H1 _ (Gw.refl sf) (.bl _)⟩
theorem pr_eqS {i j : Str} (ha : Pr W ta σ F H (.dt (.str i))) (hb : Pr W tb σ F H (.dt (.str j))) : Pr W (tOp rEq ta tb) σ F H (.dt (.bool (decide (i = j)))) :=
  pr_op ha hb fun F1 H1 x y sf _ hx hy Q q => by
    cases hx; cases hy
    exact ⟨rfl, by rw [dec_str]; exact q F1 H1 _ (Gw.refl sf) (.bl _)⟩
theorem pr_neB {i j : Bool} (ha : Pr W ta σ F H (.dt (.bool i))) (hb : Pr W tb σ F H (.dt (.bool j))) : Pr W (tOp rNe ta tb) σ F H (.dt (.bool (!decide (i = j)))) :=
  pr_op ha hb fun F1 H1 x y sf _ hx hy Q q => by
    cases hx; cases hy
    exact ⟨rfl, by rw [dec_bl]; exact q F1 H1 _ (Gw.refl sf) (.bl _)⟩
/-! ### == and != of data -/
theorem pr_eqD (hd : SeqAt.shaped d = true) (he : SeqAt.shaped e = true) (ha : Pr W ta σ F H (.dt d)) (hb : Pr W tb σ F H (.dt e)) : Pr W (tOp (rEqD K) ta tb) σ F H (.dt (.bool (PyData.eqv d e))) :=
  pr_op ha hb fun F1 H1 x y sf _ hx hy Q q => ⟨d, e, hx.dp sf, hy.dp sf, hd, he, q F1 H1 _ (Gw.refl sf) (.bl _)⟩
theorem pr_neD (hd : SeqAt.shaped d = true) (he : SeqAt.shaped e = true) (ha : Pr W ta σ F H (.dt d)) (hb : Pr W tb σ F H (.dt e)) : Pr W (tOp (rNeD K) ta tb) σ F H (.dt (.bool (!PyData.eqv d e))) :=
  pr_op ha hb fun F1 H1 x y sf _ hx hy Q q => ⟨d, e, hx.dp sf, hy.dp sf, hd, he, q F1 H1 _ (Gw.refl sf) (.bl _)⟩
/-! ### in, not in -/
theorem inV_str (s : Str) (l : List Str) : inV (.str s) (l.map V.str) = decide (s ∈ l) := by
  induction l with
  | nil => rfl
  | cons a r ih =>
    have e : inV (.str s) ((a :: r).map V.str) = (eqV (.str a) (.str s) || inV (.str s) (r.map V.str)) := rfl
    rw [e, ih]
    have e2 : eqV (.str a) (.str s) = (a == s) := rfl
    rw [e2]
    by_cases h : a = s
    · simp [h]
    · have h' : ¬ s = a := fun z => h z.symm
      simp [h, h']
theorem inV_int (s : Int) (l : List Int) : inV (.int s) (l.map V.int) = decide (s ∈ l) := by
  induction l with
  | nil => rfl
  | cons a r ih =>
    have e : inV (.int s) ((a :: r).map V.int) = (eqV (.int a) (.int s) || inV (.int s) (r.map V.int)) := rfl
    rw [e, ih]
    have e2 : eqV (.int a) (.int s) = (a == s) := rfl
    rw [e2]
    by_cases h : a = s
    · simp [h]
    · have h' : ¬ s = a := fun z => h z.symm
      simp [h, h']
theorem flat_str (l : List Str) : (l.map V.str).all flatV = true := by
  induction l with
  | nil => rfl
  | cons a r ih => rw [List.map_cons, List.all_cons, ih]; rfl
theorem flat_int (l : List Int) : (l.map V.int).all flatV = true := by
  induction l with
  | nil => rfl
  | cons a r ih => rw [List.map_cons, List.all_cons, ih]; rfl
theorem pr_notInS {s : Str} {l : List Str} (ha : Pr W ta σ F H (.dt (.str s))) (hb : Pr W tb σ F H (.dt (.tuple (l.map .str)))) : Pr W (tOp (rIn K true) ta tb) σ F H (.dt (.bool (!decide (s ∈ l)))) :=
  pr_op ha hb fun F1 H1 x y sf _ hx hy Q q => by
    cases hx
    cases hy with
    | @tup p xs _ h1 h2 =>
      have e := h2.strs
      subst e
      refine ⟨p, _, rfl, .inr (sqt_rd (rd_mono sf h1)), rfl, flat_str l, ?_⟩
      rw [if_pos rfl, inV_str]
      exact q F1 H1 _ (Gw.refl sf) (.bl _)
theorem pr_inI {s : Int} {l : List Int} (ha : Pr W ta σ F H (.dt (.int s))) (hb : Pr W tb σ F H (.dt (.tuple (l.map .int)))) : Pr W (tOp (rIn K false) ta tb) σ F H (.dt (.bool (decide (s ∈ l)))) :=
  pr_op ha hb fun F1 H1 x y sf _ hx hy Q q => by
    cases hx
    cases hy with
    | @tup p xs _ h1 h2 =>
      have e := h2.ints
      subst e
      refine ⟨p, _, rfl, .inr (sqt_rd (rd_mono sf h1)), rfl, flat_int l, ?_⟩
      rw [if_neg Bool.false_ne_true, inV_int]
      exact q F1 H1 _ (Gw.refl sf) (.bl _)
theorem pr_notInI {s : Int} {l : List Int} (ha : Pr W ta σ F H (.dt (.int s))) (hb : Pr W tb σ F H (.dt (.list (l.map .int)))) : Pr W (tOp (rIn K true) ta tb) σ F H (.dt (.bool (!decide (s ∈ l)))) :=
  pr_op ha hb fun F1 H1 x y sf _ hx hy Q q => by
    cases hx
    cases hy with
    | @lst p xs _ h1 h2 =>
      have e := h2.ints
      subst e
      refine ⟨p, _, rfl, .inl (SqL.of (sf _ _ h1)), rfl, flat_int l, ?_⟩
      rw [if_pos rfl, inV_int]
      exact q F1 H1 _ (Gw.refl sf) (.bl _)
theorem pr_inSign {x : Nat} {z : Str} (ha : Pr W ta σ F H (.dt (.str ⟨#[x]⟩))) (hb : Pr W tb σ F H (.dt (.str z))) : Pr W (tOp rInS ta tb) σ F H (.dt (.bool (decide (x ∈ z.cps.toList)))) :=
  pr_op ha hb fun F1 H1 x' y sf _ hx hy Q q => by
    cases hx; cases hy
    exact ⟨x, z, rfl, rfl, q F1 H1 _ (Gw.refl sf) (.bl _)⟩
/-! ### items -/
theorem pr_ixT {ds : List PyData} {i : Int} {n : Nat} (hi : i = (n : Int)) (hn : ds[n]? = some d) (ha : Pr W ta σ F H (.dt (.tuple ds))) (hb : Pr W tb σ F H (.dt (.int i))) : Pr W (tOp (rIxT K) ta tb) σ F H (.dt d) :=
  pr_op ha hb fun F1 H1 x y sf _ hx hy Q q => by
    cases hy
    cases hx with
    | @tup p xs _ h1 h2 =>
      obtain ⟨v, hv, dv⟩ := h2.get' hn
      exact ⟨p, xs, i, v, rfl, rfl, sqt_rd (rd_mono sf h1), at_of hi hv, q F1 H1 v (Gw.refl sf) dv⟩
theorem pr_ixL {ds : List PyData} {i : Int} {n : Nat} (hi : i = (n : Int)) (hn : ds[n]? = some d) (ha : Pr W ta σ F H (.dt (.list ds))) (hb : Pr W tb σ F H (.dt (.int i))) : Pr W (tOp (rIxL K) ta tb) σ F H (.dt d) :=
  pr_op ha hb fun F1 H1 x y sf _ hx hy Q q => by
    cases hy
    cases hx with
    | @lst p xs _ h1 h2 =>
      obtain ⟨v, hv, dv⟩ := h2.get' hn
      exact ⟨p, xs, i, v, rfl, rfl, SqL.of (sf _ _ h1), at_of hi hv, q F1 H1 v (Gw.refl sf) dv⟩
theorem pr_ixLast {ds : List PyData} {i : Int} (hi : i = -1) (ha : Pr W ta σ F H (.dt (.list (ds ++ [d])))) (hb : Pr W tb σ F H (.dt (.int i))) : Pr W (tOp (rIxL K) ta tb) σ F H (.dt d) :=
  pr_op ha hb fun F1 H1 x y sf _ hx hy Q q => by
    cases hy
    cases hx with
    | @lst p xs _ h1 h2 =>
      have hl := h2.len
      rw [List.length_append, List.length_singleton] at hl
      obtain ⟨v, hv, dv⟩ := h2.get' (i := ds.length) (d := d) (by simp)
      have e : atI xs (-1) = some v := by
        have q1 : xs = xs.take ds.length ++ [v] := by
          have q2 := List.take_append_drop ds.length xs
          have q3 : xs.drop ds.length = [v] := by
            rw [List.drop_eq_getElem_cons (by omega)]
            rw [List.getElem?_eq_getElem (by omega)] at hv
            rw [Option.some.inj hv, List.drop_eq_nil_of_le (by omega)]
          rw [q3] at q2
          exact q2.symm
        rw [q1]
        exact atI_last _ _
      exact ⟨p, xs, i, v, rfl, rfl, SqL.of (sf _ _ h1), by rw [hi]; exact e, q F1 H1 v (Gw.refl sf) dv⟩
theorem pr_ixS {z : Str} {i : Int} {n x : Nat} (hi : i = (n : Int)) (hz : z.length ≤ 1000) (hx : z.cps.toList[n]? = some x) (ha : Pr W ta σ F H (.dt (.str z))) (hb : Pr W tb σ F H (.dt (.int i))) : Pr W (tOp rIxS ta tb) σ F H (.dt (.str ⟨#[x]⟩)) :=
  pr_op ha hb fun F1 H1 x' y sf _ hx' hy Q q => by
    cases hy
    cases hx'
    refine ⟨z, i, x, rfl, rfl, sz1000 hz, ?_, q F1 H1 _ (Gw.refl sf) (.str _)⟩
    rw [hi]
    exact atI_nat hx
theorem pr_addS {x y : Str} (h : x.length + y.length ≤ 1000) (ha : Pr W ta σ F H (.dt (.str x))) (hb : Pr W tb σ F H (.dt (.str y))) :
    Pr W (tOp (fun x y H Q => ∃ i j, x = .str i ∧ y = .str j ∧ i.length + j.length ≤ sizeLine ∧ Q (.str (i ++ j)) H) ta tb) σ F H (.dt (.str (x ++ y))) :=
  pr_op ha hb fun F1 H1 x' y' sf _ hx hy Q q => by
    cases hx; cases hy
    exact ⟨x, y, rfl, rfl, sz1000 h, q F1 H1 _ (Gw.refl sf) (.str _)⟩
/-! ### built-ins -/
theorem pr_lenT {ds : List PyData} (h : Pr W te σ F H (.dt (.tuple ds))) : Pr W (tCB (fun xs H Q => ∃ p ys, xs = [.ref p] ∧ (SqL K H p ys ∨ SqT K H p ys) ∧ Q (.int ys.length) H) (tCons te tNil)) σ F H (.dt (.int ds.length)) :=
  pr_cb (as := [.dt (.tuple ds)]) (pra_cons h pra_nil) fun F1 H1 vs sf _ ha Q q => by
    obtain ⟨v, r, rfl, hv, rfl⟩ := ha
    cases hv with
    | @tup p xs _ h1 h2 =>
      refine ⟨p, xs, rfl, .inr (sqt_rd (rd_mono sf h1)), q F1 H1 _ (Gw.refl sf) ?_⟩
      rw [h2.len]
      exact .int _
theorem pr_lenL {ds : List PyData} (h : Pr W te σ F H (.dt (.list ds))) : Pr W (tCB (fun xs H Q => ∃ p ys, xs = [.ref p] ∧ (SqL K H p ys ∨ SqT K H p ys) ∧ Q (.int ys.length) H) (tCons te tNil)) σ F H (.dt (.int ds.length)) :=
  pr_cb (as := [.dt (.list ds)]) (pra_cons h pra_nil) fun F1 H1 vs sf _ ha Q q => by
    obtain ⟨v, r, rfl, hv, rfl⟩ := ha
    cases hv with
    | @lst p xs _ h1 h2 =>
      refine ⟨p, xs, rfl, .inl (SqL.of (sf _ _ h1)), q F1 H1 _ (Gw.refl sf) ?_⟩
      rw [h2.len]
      exact .int _
theorem pr_lenS {z : Str} (hz : z.length ≤ sizeLine) (h : Pr W te σ F H (.dt (.str z))) : Pr W (tCB (fun xs H Q => ∃ z, xs = [.str z] ∧ z.length ≤ sizeLine ∧ Q (.int z.length) H) (tCons te tNil)) σ F H (.dt (.int z.length)) :=
  pr_cb (as := [.dt (.str z)]) (pra_cons h pra_nil) fun F1 H1 vs sf _ ha Q q => by
    obtain ⟨v, r, rfl, hv, rfl⟩ := ha
    cases hv
    exact ⟨z, rfl, hz, q F1 H1 _ (Gw.refl sf) (.int _)⟩
theorem pr_toInt {i : Int} (h : Pr W te σ F H (.dt (.int i))) : Pr W (tCB (fun xs H Q => (∃ i, xs = [.int i] ∧ Q (.int i) H) ∨ ∃ k, xs = [.bl k] ∧ Q (.int (if k then 1 else 0)) H) (tCons te tNil)) σ F H (.dt (.int i)) :=
  pr_cb (as := [.dt (.int i)]) (pra_cons h pra_nil) fun F1 H1 vs sf _ ha Q q => by
    obtain ⟨v, r, rfl, hv, rfl⟩ := ha
    cases hv
    exact .inl ⟨i, rfl, q F1 H1 _ (Gw.refl sf) (.int _)⟩
theorem pr_toIntB {i : Bool} (h : Pr W te σ F H (.dt (.bool i))) : Pr W (tCB (fun xs H Q => (∃ i, xs = [.int i] ∧ Q (.int i) H) ∨ ∃ k, xs = [.bl k] ∧ Q (.int (if k then 1 else 0)) H) (tCons te tNil)) σ F H (.dt (.int (if i then 1 else 0))) :=
  pr_cb (as := [.dt (.bool i)]) (pra_cons h pra_nil) fun F1 H1 vs sf _ ha Q q => by
    obtain ⟨v, r, rfl, hv, rfl⟩ := ha
    cases hv
    exact .inr ⟨i, rfl, q F1 H1 _ (Gw.refl sf) (.int _)⟩
theorem pr_abs {i : Int} (h : Pr W te σ F H (.dt (.int i))) : Pr W (tCB (fun xs H Q => ∃ i, xs = [.int i] ∧ Q (.int (if i < 0 then -i else i)) H) (tCons te tNil)) σ F H (.dt (.int (if i < 0 then -i else i))) :=
  pr_cb (as := [.dt (.int i)]) (pra_cons h pra_nil) fun F1 H1 vs sf _ ha Q q => by
    obtain ⟨v, r, rfl, hv, rfl⟩ := ha
    cases hv
    exact ⟨i, rfl, q F1 H1 _ (Gw.refl sf) (.int _)⟩
/-- tuple(xs), xs a list -/
theorem pr_tupleL {ds : List PyData} (h : Pr W te σ F H (.dt (.list ds))) :
    Pr W (tCB (fun xs H Q => ∃ p ys, xs = [.ref p] ∧ ((SqL K H p ys ∧ ∀ l, H l = none → Q (.ref l) (upd H l (.tup ys))) ∨ (SqT K H p ys ∧ Q (.ref p) H))) (tCons te tNil)) σ F H (.dt (.tuple ds)) :=
  pr_cb (as := [.dt (.list ds)]) (pra_cons h pra_nil) fun F1 H1 vs sf _ ha Q q => by
    obtain ⟨v, r, rfl, hv, rfl⟩ := ha
    cases hv with
    | @lst p xs _ h1 h2 =>
      refine ⟨p, xs, rfl, .inl ⟨SqL.of (sf _ _ h1), fun l hl => q (upd F1 l (.tup xs)) _ _ ((Gw.refl sf).frz hl) (.tup (.inl upd_same) (h2.mono ?_))⟩⟩
      exact fun b o e => by rw [upd_ne (ne_of_none e (same_fnone sf hl))]; exact e
theorem pr_listT {ds : List PyData} (h : Pr W te σ F H (.dt (.tuple ds))) :
    Pr W (tCB (fun xs H Q => ∃ p ys, xs = [.ref p] ∧ (SqL K H p ys ∨ SqT K H p ys) ∧ ∀ l, H l = none → Q (.ref l) (upd H l (.lst ys))) (tCons te tNil)) σ F H (.dt (.list ds)) :=
  pr_cb (as := [.dt (.tuple ds)]) (pra_cons h pra_nil) fun F1 H1 vs sf _ ha Q q => by
    obtain ⟨v, r, rfl, hv, rfl⟩ := ha
    cases hv with
    | @tup p xs _ h1 h2 =>
      refine ⟨p, xs, rfl, .inr (sqt_rd (rd_mono sf h1)), fun l hl => q (upd F1 l (.lst xs)) _ _ ((Gw.refl sf).frz hl) (.lst upd_same (h2.mono ?_))⟩
      exact fun b o e => by rw [upd_ne (ne_of_none e (same_fnone sf hl))]; exact e
/-- all(xs), xs a list of truth values -/
theorem pr_all {bs : List Bool} (h : Pr W te σ F H (.dt (.list (bs.map .bool)))) : Pr W (tCB (rAll K) (tCons te tNil)) σ F H (.dt (.bool (bs.all id))) :=
  pr_cb (as := [.dt (.list (bs.map .bool))]) (pra_cons h pra_nil) fun F1 H1 vs sf _ ha Q q => by
    obtain ⟨v, r, rfl, hv, rfl⟩ := ha
    cases hv with
    | @lst p xs _ h1 h2 =>
      have e := h2.bools
      subst e
      exact ⟨p, bs, rfl, SqL.of (sf _ _ h1), q F1 H1 _ (Gw.refl sf) (.bl _)⟩
/-! ### displays -/
def PrD (W : Wd) (ta : TA) (σ : L2.St) (F H : Hp) (ds : List PyData) : Prop :=
  ∀ F1 H1, Gw W.M F H F1 H1 → W.I F1 H1 → ∀ Q : List V → Hp → Prop, (∀ F2 H2 vs, Gw W.M F1 H1 F2 H2 → W.I F2 H2 → DtA F2 vs ds → Q vs H2) → ta σ H1 Q
theorem prd_nil : PrD W tNil σ F H [] := fun F1 H1 g i Q q => q F1 H1 [] (Gw.refl g.fh) i .nil
theorem prd_cons {ds : List PyData} (h : Pr W te σ F H (.dt d)) (hr : PrD W tl σ F H ds) : PrD W (tCons te tl) σ F H (d :: ds) := fun F1 H1 g i Q q =>
  h F1 H1 g i _ fun F2 H2 v g2 i2 s => hr F2 H2 (g.trans g2) i2 _ fun F3 H3 vs g3 i3 s3 => q F3 H3 (v :: vs) (g2.trans g3) i3 (.cons (s.mono g3.ff) s3)
theorem up_same {F : Hp} {p : Addr} {o : HO} (h : F p = none) : Same F (upd F p o) := fun b u e => by rw [upd_ne (ne_of_none e h)]; exact e
theorem pr_tup {ds : List PyData} (h : PrD W tl σ F H ds) (hl : ds.length ≤ 1000) : Pr W (tTup tl) σ F H (.dt (.tuple ds)) := fun F1 H1 g i Q q =>
  h F1 H1 g i _ fun F2 H2 vs g2 i2 s => ⟨by rw [s.len]; exact sz1000 hl, fun p hp => by
    have g3 : Gw [] F2 H2 (upd F2 p (.tup vs)) (upd H2 p (.tup vs)) := (Gw.refl g2.fh).frz hp
    exact q _ _ _ (g2.trans g3.pure) (W.st _ _ _ _ g3 i2) (.tup (.inl upd_same) (s.mono g3.ff))⟩
theorem pr_lst {ds : List PyData} (h : PrD W tl σ F H ds) (hl : ds.length ≤ 1000) : Pr W (tLst tl) σ F H (.dt (.list ds)) := fun F1 H1 g i Q q =>
  h F1 H1 g i _ fun F2 H2 vs g2 i2 s => ⟨by rw [s.len]; exact sz1000 hl, fun p hp => by
    have g3 : Gw [] F2 H2 (upd F2 p (.lst vs)) (upd H2 p (.lst vs)) := (Gw.refl g2.fh).frz hp
    exact q _ _ _ (g2.trans g3.pure) (W.st _ _ _ _ g3 i2) (.lst upd_same (s.mono g3.ff))⟩
/-- t + u of tuples -/
theorem pr_catT {ds es : List PyData} (hl : ds.length + es.length ≤ 10000) (ha : Pr W ta σ F H (.dt (.tuple ds))) (hb : Pr W tb σ F H (.dt (.tuple es))) : Pr W (tOp (rCatA K) ta tb) σ F H (.dt (.tuple (ds ++ es))) :=
  pr_op ha hb fun F1 H1 x y sf _ hx hy Q q => by
    cases hx with
    | @tup p xs _ h1 h2 =>
      cases hy with
      | @tup p' ys _ h1' h2' =>
        refine ⟨p, p', xs, ys, rfl, rfl, sqt_rd (rd_mono sf h1), sqt_rd (rd_mono sf h1'), by rw [h2.len, h2'.len]; exact Nat.le_of_lt (sz4000 hl), fun e => ?_, fun _ e => ?_, fun _ _ l hn => ?_⟩
        · subst e
          cases h2
          exact q F1 H1 _ (Gw.refl sf) (.tup h1' h2')
        · subst e
          cases h2'
          rw [List.append_nil] at q
          exact q F1 H1 _ (Gw.refl sf) (.tup h1 h2)
        · have g3 : Gw [] F1 H1 (upd F1 l (.tup (xs ++ ys))) (upd H1 l (.tup (xs ++ ys))) := (Gw.refl sf).frz hn
          exact q _ _ _ g3 (.tup (.inl upd_same) ((h2.append h2').mono g3.ff))
/-- xs + ys of lists -/
theorem pr_catL {ds es : List PyData} (hl : ds.length + es.length ≤ 10000) (ha : Pr W ta σ F H (.dt (.list ds))) (hb : Pr W tb σ F H (.dt (.list es))) : Pr W (tOp rCat ta tb) σ F H (.dt (.list (ds ++ es))) :=
  pr_op ha hb fun F1 H1 x y sf _ hx hy Q q => by
    cases hx with
    | @lst p xs _ h1 h2 =>
      cases hy with
      | @lst p' ys _ h1' h2' =>
        refine ⟨p, p', xs, ys, rfl, rfl, sf _ _ h1, sf _ _ h1', by rw [h2.len, h2'.len]; exact Nat.le_of_lt (sz4000 hl), fun l hn => ?_⟩
        have g3 : Gw [] F1 H1 (upd F1 l (.lst (xs ++ ys))) (upd H1 l (.lst (xs ++ ys))) := (Gw.refl sf).frz hn
        exact q _ _ _ g3 (.lst upd_same ((h2.append h2').mono g3.ff))
/-! ### fields -/
theorem pr_fld {p : Addr} {f : Str} (h : Pr W te σ F H (.raw (.ref p))) (hI : ∀ F H, Same F H → W.I F H → ∃ C dx fs v, H p = some (.ins C dx fs) ∧ Cls K C ∧ NoAttr K C f ∧ fs.lookup f = some v ∧ a.sat F v) : Pr W (tFld K te f) σ F H a := fun F1 H1 g i Q q =>
  h F1 H1 g i _ fun F2 H2 v g2 i2 s2 => by
    obtain ⟨C, dx, fs, x, e1, e2, e3, e4, e5⟩ := hI F2 H2 g2.fh i2
    exact ⟨p, C, dx, fs, x, s2, e1, e2, e3, e4, q F2 H2 x g2 i2 e5⟩
/-! ### truth -/
theorem prt_test {k : Bool} (h : Pr W te σ F H (.dt (.bool k))) : PrT W (tTest te) σ F H k := fun F1 H1 g i Q q => h F1 H1 g i _ fun F2 H2 v g2 i2 s => by
  cases s
  exact ⟨k, rfl, q F2 H2 g2 i2⟩
theorem prt_B {k : Bool} (h : Pr W te σ F H (.dt (.bool k))) : PrT W (tB te) σ F H k := fun F1 H1 g i Q q => h F1 H1 g i _ fun F2 H2 v g2 i2 s => by
  cases s
  exact ⟨k, rfl, q F2 H2 g2 i2⟩
theorem prt_yes : PrT W tYes σ F H true := fun F1 H1 g i Q q => q F1 H1 (Gw.refl g.fh) i
theorem prt_and {k l : Bool} (h : PrT W t σ F H k) (h' : k = true → PrT W u σ F H l) : PrT W (tAnd t u) σ F H (k && l) := fun F1 H1 g i Q q => h F1 H1 g i _ fun F2 H2 g2 i2 => by
  cases k with
  | true => exact h' rfl F2 H2 (g.trans g2) i2 Q fun F3 H3 g3 i3 => q F3 H3 (g2.trans g3) i3
  | false => exact q F2 H2 g2 i2
theorem prt_or {k l : Bool} (h : PrT W t σ F H k) (h' : k = false → PrT W u σ F H l) : PrT W (tOr t u) σ F H (k || l) := fun F1 H1 g i Q q => h F1 H1 g i _ fun F2 H2 g2 i2 => by
  cases k with
  | false => exact h' rfl F2 H2 (g.trans g2) i2 Q fun F3 H3 g3 i3 => q F3 H3 (g2.trans g3) i3
  | true => exact q F2 H2 g2 i2
theorem prt_not {k : Bool} (h : PrT W t σ F H k) : PrT W (tNot t) σ F H (!k) := fun F1 H1 g i Q q => h F1 H1 g i _ fun F2 H2 g2 i2 => q F2 H2 g2 i2
theorem prt_to {k l : Bool} (h : PrT W t σ F H k) (e : k = l) : PrT W t σ F H l := e ▸ h
theorem pr_and {k l : Bool} (h : Pr W ta σ F H (.dt (.bool k))) (h' : k = true → Pr W tb σ F H (.dt (.bool l))) : Pr W (tAndV ta tb) σ F H (.dt (.bool (k && l))) := fun F1 H1 g i Q q => h F1 H1 g i _ fun F2 H2 v g2 i2 s => by
  cases s
  refine ⟨k, rfl, ?_⟩
  cases k with
  | true => exact h' rfl F2 H2 (g.trans g2) i2 Q fun F3 H3 v g3 i3 s3 => q F3 H3 v (g2.trans g3) i3 s3
  | false => exact q F2 H2 _ g2 i2 (.bl _)
theorem pr_or {k l : Bool} (h : Pr W ta σ F H (.dt (.bool k))) (h' : k = false → Pr W tb σ F H (.dt (.bool l))) : Pr W (tOrV ta tb) σ F H (.dt (.bool (k || l))) := fun F1 H1 g i Q q => h F1 H1 g i _ fun F2 H2 v g2 i2 s => by
  cases s
  refine ⟨k, rfl, ?_⟩
  cases k with
  | false => exact h' rfl F2 H2 (g.trans g2) i2 Q fun F3 H3 v g3 i3 s3 => q F3 H3 v (g2.trans g3) i3 s3
  | true => exact q F2 H2 _ g2 i2 (.bl _)
theorem pr_not {k : Bool} (h : Pr W ta σ F H (.dt (.bool k))) : Pr W (tNotV ta) σ F H (.dt (.bool (!k))) := fun F1 H1 g i Q q => h F1 H1 g i _ fun F2 H2 v g2 i2 s => by
  cases s
  exact ⟨k, rfl, q F2 H2 _ g2 i2 (.bl _)⟩
/-- i <= j <= k -/
theorem pr_chain {i j k : Int} (ha : Pr W ta σ F H (.dt (.int i))) (hb : Pr W tb σ F H (.dt (.int j))) (hc : Pr W tc σ F H (.dt (.int k))) :
    Pr W (tChain (rI0 fun i j => .bl (decide (i ≤ j))) (rI0 fun i j => .bl (decide (i ≤ j))) ta tb tc) σ F H (.dt (.bool (decide (i ≤ j ∧ j ≤ k)))) := fun F1 H1 g i1 Q q =>
  ha F1 H1 g i1 _ fun F2 H2 x g2 i2 s2 => hb F2 H2 (g.trans g2) i2 _ fun F3 H3 y g3 i3 s3 => by
    cases s2; cases s3
    refine ⟨i, j, rfl, rfl, _, rfl, ?_⟩
    by_cases c1 : i ≤ j
    · rw [decide_eq_true c1, if_pos rfl]
      refine hc F3 H3 ((g.trans g2).trans g3) i3 _ fun F4 H4 z g4 i4 s4 => ?_
      cases s4
      have e : decide (i ≤ j ∧ j ≤ k) = decide (j ≤ k) := by simp [c1]
      refine ⟨j, k, rfl, rfl, ?_⟩
      rw [e] at q
      exact q F4 H4 _ ((g2.trans g3).trans g4) i4 (.bl _)
    · rw [decide_eq_false c1, if_neg Bool.false_ne_true]
      have e : decide (i ≤ j ∧ j ≤ k) = false := by simp [c1]
      rw [e] at q
      exact q F3 H3 _ (g2.trans g3) i3 (.bl _)
end
end K39
end

section
set_option Elab.async false
set_option linter.all false
set_option maxRecDepth 100000
set_option maxHeartbeats 2000000
namespace K39
open PySem L2

section
variable {W : Wd} {σ : L2.St} {F H F1 H1 : Hp} {te ta tb tc : TE} {tl tr : TA} {tt t u : TT} {a b c : Ar} {as : List Ar} {v w : V} {d e : PyData} {r : R2} {K : PySem.W.Frag} {D : Ends} {tu tw tz : TS}

/-! ### comprehensions -/
structure Lc (W : Wd) (F1 H1 : Hp) (p : Addr) (ds : List PyData) (Fi H : Hp) : Prop where
  gw : Gw W.M F1 H1 Fi H
  iw : W.I Fi H
  fn : Fi p = none
  at_ : ∃ acc, H p = some (.lst acc) ∧ DtA Fi acc ds
theorem lc_start (sf : Same F1 H1) (iw : W.I F1 H1) {p : Addr} (hp : H1 p = none) : Lc W F1 H1 p [] F1 (upd H1 p (.lst [])) :=
  ⟨(Gw.refl sf).fresh hp, W.wr iw (W.ne iw hp), same_fnone sf hp, [], upd_same, .nil⟩
theorem lc_keep {F2 H2 Fi Hi : Hp} {p : Addr} {ds : List PyData} (hp : H1 p = none) (i1 : W.I F1 H1) (q : Lc W F1 H1 p ds Fi Hi) (g : Gw W.M Fi Hi F2 H2) (i2 : W.I F2 H2) : Lc W F1 H1 p ds F2 H2 := by
  obtain ⟨gw, iw, fn, acc, e, h⟩ := q
  exact ⟨gw.trans g, i2, g.fnone (nn e) fn, acc, g.keep p _ (W.neM i1 hp) e, h.mono g.ff⟩
theorem lc_add {Fi Hi : Hp} {p : Addr} {ds : List PyData} {y : V} (hp : H1 p = none) (i1 : W.I F1 H1) (q : Lc W F1 H1 p ds Fi Hi) (hy : Dt Fi y d) (hl : ds.length ≤ 10000) : ∃ acc, Hi p = some (.lst acc) ∧ acc.length < sizeLine ∧ Lc W F1 H1 p (ds ++ [d]) Fi (upd Hi p (.lst (acc ++ [y]))) := by
  obtain ⟨gw, iw, fn, acc, e, h⟩ := q
  refine ⟨acc, e, by rw [h.len]; exact sz4000 hl, gw.write fn (.inl hp), W.wr iw (W.ne i1 hp), fn, _, upd_same, h.snoc hy⟩
theorem lc_end {Fi Hi : Hp} {p : Addr} {ds : List PyData} (hp : H1 p = none) (i1 : W.I F1 H1) (q : Lc W F1 H1 p ds Fi Hi) : ∃ F2, Gw W.M F1 H1 F2 Hi ∧ W.I F2 Hi ∧ Dt F2 (.ref p) (.list ds) := by
  obtain ⟨gw, iw, fn, acc, e, h⟩ := q
  exact ⟨upd Fi p (.lst acc), gw.freeze fn hp e, W.fz iw fn (W.ne i1 hp), .lst upd_same (h.mono (up_same fn))⟩
/-- one turn -/
theorem lc_turn {Fi Hi : Hp} {p : Addr} {ds : List PyData} {σ2 : L2.St} {k : Bool} {P : Hp → Prop} (hp : H1 p = none) (i1 : W.I F1 H1) (q : Lc W F1 H1 p ds Fi Hi) (hl : ds.length ≤ 10000) (ht : PrT W tt σ2 Fi Hi k) (he : k = true → Pr W te σ2 Fi Hi (.dt d))
    (hP : ∀ F2 H2, Lc W F1 H1 p (if k = true then ds ++ [d] else ds) F2 H2 → P H2) :
    tt σ2 Hi fun b H3 => if b = true then te σ2 H3 fun y H4 => ∃ acc, H4 p = some (.lst acc) ∧ acc.length < sizeLine ∧ P (upd H4 p (.lst (acc ++ [y]))) else P H3 :=
  ht Fi Hi (Gw.refl q.gw.fh) q.iw _ fun F2 H2 g2 i2 => by
    have q2 := lc_keep hp i1 q g2 i2
    cases k with
    | false => exact hP F2 H2 q2
    | true =>
      refine he rfl F2 H2 g2 i2 _ fun F3 H3 y g3 i3 s3 => ?_
      obtain ⟨acc, e1, e2, q4⟩ := lc_add hp i1 (lc_keep hp i1 q2 g3 i3) s3 hl
      exact ⟨acc, e1, e2, hP _ _ q4⟩
theorem filter_snoc {items : List PyData} {p : PyData → Bool} {f : PyData → PyData} {i : Nat} {x : PyData} (h : items[i]? = some x) : ((items.take (i + 1)).filter p).map f = if p x = true then ((items.take i).filter p).map f ++ [f x] else ((items.take i).filter p).map f := by
  have e : items.take (i + 1) = items.take i ++ [x] := by
    rw [List.take_succ, h]; rfl
  rw [e, List.filter_append, List.map_append]
  by_cases c : p x = true
  · simp [c]
  · simp [c]
theorem fl_len {items : List PyData} {p : PyData → Bool} {f : PyData → PyData} (i : Nat) : (((items.take i).filter p).map f).length ≤ items.length := by
  rw [List.length_map]
  exact Nat.le_trans (List.length_filter_le _ _) (by rw [List.length_take]; omega)
/-- over a tuple of data -/
theorem pr_lcT {te' : TE} {j : Nat} {vs : List Nat} {items : List PyData} (p : PyData → Bool) (f : PyData → PyData) (h : Pr W te σ F H (.dt (.tuple items))) (hl : items.length ≤ 10000) (hw : ∀ x, wipe ((wipe σ vs).set j (some x)) vs = wipe σ vs)
    (ht : ∀ d ∈ items, ∀ F1 H1 v, Gw W.M F H F1 H1 → W.I F1 H1 → Dt F1 v d → PrT W tt ((wipe σ vs).set j (some v)) F1 H1 (p d))
    (he : ∀ d ∈ items, ∀ F1 H1 v, Gw W.M F H F1 H1 → W.I F1 H1 → Dt F1 v d → p d = true → Pr W te' ((wipe σ vs).set j (some v)) F1 H1 (.dt (f d))) :
    Pr W (tLc (iTup K te) (gName j) tt te' vs) σ F H (.dt (.list ((items.filter p).map f))) := fun F1 H1 g i Q q =>
  h F1 H1 g i _ fun F2 H2 v g2 i2 s2 => by
    cases s2 with
    | @tup a xs _ h1 h2 =>
      refine ⟨a, rfl, ⟨xs, sqt_rd (rd_mono g2.fh h1)⟩, fun D hD => lc_tup (K := K) (a := a) (xs := xs) (fun i H' => ∃ Fi, Lc W F2 H2 D (((items.take i).filter p).map f) Fi H') ⟨F2, lc_start g2.fh i2 hD⟩ (fun i H' _ ⟨Fi, z⟩ => sqt_rd (rd_mono z.gw.fh (rd_mono z.gw.ff h1))) ?_ ?_⟩
      · rintro i x H' hx ⟨Fi, z⟩
        obtain ⟨d, hd, dx⟩ := h2.get hx
        have hm := List.mem_of_getElem? hd
        have g3 : Gw W.M F H Fi H' := (g.trans g2).trans z.gw
        refine ⟨hw x, lc_turn (d := f d) (k := p d) hD i2 z (Nat.le_trans (fl_len i) hl) (ht d hm Fi H' x g3 z.iw (dx.mono z.gw.ff)) (fun c => he d hm Fi H' x g3 z.iw (dx.mono z.gw.ff) c) fun F3 H3 z3 => ⟨F3, ?_⟩⟩
        rw [filter_snoc hd]
        exact z3
      · rintro H' ⟨Fi, z⟩
        have e : items.take xs.length = items := List.take_of_length_le (by rw [h2.len]; exact Nat.le_refl _)
        rw [e] at z
        obtain ⟨F3, g3, i3, s3⟩ := lc_end hD i2 z
        exact q F3 H' _ (g2.trans g3) i3 s3
/-- over a list of data -/
theorem pr_lcL {te' : TE} {j : Nat} {vs : List Nat} {items : List PyData} (p : PyData → Bool) (f : PyData → PyData) (h : Pr W te σ F H (.dt (.list items))) (hl : items.length ≤ 10000) (hw : ∀ x, wipe ((wipe σ vs).set j (some x)) vs = wipe σ vs)
    (ht : ∀ d ∈ items, ∀ F1 H1 v, Gw W.M F H F1 H1 → W.I F1 H1 → Dt F1 v d → PrT W tt ((wipe σ vs).set j (some v)) F1 H1 (p d))
    (he : ∀ d ∈ items, ∀ F1 H1 v, Gw W.M F H F1 H1 → W.I F1 H1 → Dt F1 v d → p d = true → Pr W te' ((wipe σ vs).set j (some v)) F1 H1 (.dt (f d))) :
    Pr W (tLc (iList K te) (gName j) tt te' vs) σ F H (.dt (.list ((items.filter p).map f))) := fun F1 H1 g i Q q =>
  h F1 H1 g i _ fun F2 H2 v g2 i2 s2 => by
    cases s2 with
    | @lst a xs _ h1 h2 =>
      refine ⟨a, rfl, ⟨xs, SqL.of (g2.fh _ _ h1)⟩, fun D hD => lc_list (K := K) (a := a) (xs := xs) (fun i H' => ∃ Fi, Lc W F2 H2 D (((items.take i).filter p).map f) Fi H') ⟨F2, lc_start g2.fh i2 hD⟩ (fun i H' _ ⟨Fi, z⟩ => SqL.of (z.gw.fh _ _ (z.gw.ff _ _ h1))) ?_ ?_⟩
      · rintro i x H' hx ⟨Fi, z⟩
        obtain ⟨d, hd, dx⟩ := h2.get hx
        have hm := List.mem_of_getElem? hd
        have g3 : Gw W.M F H Fi H' := (g.trans g2).trans z.gw
        refine ⟨hw x, lc_turn (d := f d) (k := p d) hD i2 z (Nat.le_trans (fl_len i) hl) (ht d hm Fi H' x g3 z.iw (dx.mono z.gw.ff)) (fun c => he d hm Fi H' x g3 z.iw (dx.mono z.gw.ff) c) fun F3 H3 z3 => ⟨F3, ?_⟩⟩
        rw [filter_snoc hd]
        exact z3
      · rintro H' ⟨Fi, z⟩
        have e : items.take xs.length = items := List.take_of_length_le (by rw [h2.len]; exact Nat.le_refl _)
        rw [e] at z
        obtain ⟨F3, g3, i3, s3⟩ := lc_end hD i2 z
        exact q F3 H' _ (g2.trans g3) i3 s3
theorem range_snoc {p : Nat → Bool} {f : Nat → PyData} (i : Nat) : ((List.range (i + 1)).filter p).map f = if p i = true then ((List.range i).filter p).map f ++ [f i] else ((List.range i).filter p).map f := by
  rw [List.range_succ, List.filter_append, List.map_append]
  by_cases c : p i = true
  · simp [c]
  · simp [c]
/-- over range(n) -/
theorem pr_lcR {te' : TE} {j : Nat} {vs : List Nat} {n : Nat} (p : Nat → Bool) (f : Nat → PyData) (h : Pr W te σ F H (.dt (.int n))) (hl : n ≤ 10000) (hw : ∀ x, wipe ((wipe σ vs).set j (some x)) vs = wipe σ vs)
    (ht : ∀ k, k < n → ∀ F1 H1, Gw W.M F H F1 H1 → W.I F1 H1 → PrT W tt ((wipe σ vs).set j (some (.int (k : Int)))) F1 H1 (p k))
    (he : ∀ k, k < n → ∀ F1 H1, Gw W.M F H F1 H1 → W.I F1 H1 → p k = true → Pr W te' ((wipe σ vs).set j (some (.int (k : Int)))) F1 H1 (.dt (f k))) :
    Pr W (tLc (iRng1 (tCons te tNil)) (gName j) tt te' vs) σ F H (.dt (.list (((List.range n).filter p).map f))) := fun F1 H1 g i Q q =>
  h F1 H1 g i _ fun F2 H2 v g2 i2 s2 => by
    cases s2
    refine ⟨(n : Int), rfl, by omega, by omega, fun D hD => lc_range (lo := 0) (n := (n : Int).toNat) (fun i H' => ∃ Fi, Lc W F2 H2 D (((List.range i).filter p).map f) Fi H') ⟨F2, lc_start g2.fh i2 hD⟩ ?_ ?_⟩
    · rintro i H' hi ⟨Fi, z⟩
      have hin : i < n := by omega
      have g3 : Gw W.M F H Fi H' := (g.trans g2).trans z.gw
      have e0 : (0 : Int) + (i : Int) = (i : Int) := Int.zero_add _
      rw [e0]
      refine ⟨hw _, lc_turn (d := f i) (k := p i) hD i2 z ?_ (ht i hin Fi H' g3 z.iw) (fun c => he i hin Fi H' g3 z.iw c) fun F3 H3 z3 => ⟨F3, ?_⟩⟩
      · rw [List.length_map]
        exact Nat.le_trans (List.length_filter_le _ _) (by rw [List.length_range]; omega)
      · rw [range_snoc]
        exact z3
    · rintro H' ⟨Fi, z⟩
      have e : (n : Int).toNat = n := Int.toNat_natCast n
      rw [e] at z
      obtain ⟨F3, g3, i3, s3⟩ := lc_end hD i2 z
      exact q F3 H' _ (g2.trans g3) i3 s3
/-- over a text -/
theorem pr_lcS {te' : TE} {j : Nat} {vs : List Nat} {z : Str} (f : Nat → PyData) (h : Pr W te σ F H (.dt (.str z))) (hl : z.length ≤ 1000) (hw : ∀ x, wipe ((wipe σ vs).set j (some x)) vs = wipe σ vs)
    (he : ∀ c F1 H1, Gw W.M F H F1 H1 → W.I F1 H1 → Pr W te' ((wipe σ vs).set j (some (.str ⟨#[c]⟩))) F1 H1 (.dt (f c))) :
    Pr W (tLc (iStr te) (gName j) tYes te' vs) σ F H (.dt (.list (z.cps.toList.map f))) := fun F1 H1 g i Q q =>
  h F1 H1 g i _ fun F2 H2 v g2 i2 s2 => by
    cases s2
    refine ⟨z, rfl, fun D hD => lc_it (walk_str (z := z)) (fun i H' => ∃ Fi, Lc W F2 H2 D ((z.cps.toList.take i).map f) Fi H') ⟨F2, lc_start g2.fh i2 hD⟩ (fun _ _ _ _ => True.intro) ?_ ?_⟩
    · rintro i x Ha Hb hi ⟨Fi, q3⟩ ⟨rfl, c, hc, rfl⟩
      have g3 : Gw W.M F H Fi Hb := (g.trans g2).trans q3.gw
      refine ⟨hw _, lc_turn (d := f c) (k := true) hD i2 q3 ?_ prt_yes (fun _ => he c Fi Hb g3 q3.iw) fun F3 H3 z3 => ⟨F3, ?_⟩⟩
      · rw [List.length_map, List.length_take]
        have : z.cps.toList.length = z.length := rfl
        omega
      · have e : z.cps.toList.take (i + 1) = z.cps.toList.take i ++ [c] := by
          rw [List.take_succ, Array.getElem?_toList, hc]; rfl
        rw [e, List.map_append]
        rw [if_pos rfl] at z3
        exact z3
    · rintro H' ⟨Fi, q3⟩
      have e : z.cps.toList.take z.cps.size = z.cps.toList := List.take_of_length_le (by simp)
      rw [e] at q3
      obtain ⟨F3, g3, i3, s3⟩ := lc_end hD i2 q3
      exact q F3 H' _ (g2.trans g3) i3 s3

/-! ### statements -/
theorem q_set {i : Nat} (sf : Same F H) (iw : W.I F H) (h : Pr W te σ F H a) (k : ∀ F1 H1 v, Gw W.M F H F1 H1 → W.I F1 H1 → a.sat F1 v → tz D (σ.set i (some v)) H1) : tSeq (tAsg te (gName i)) tz D σ H :=
  h F H (Gw.refl sf) iw _ fun F1 H1 v g1 i1 s1 => k F1 H1 v g1 i1 s1
theorem s_set {i : Nat} (sf : Same F H) (iw : W.I F H) (h : Pr W te σ F H a) (k : ∀ F1 H1 v, Gw W.M F H F1 H1 → W.I F1 H1 → a.sat F1 v → D.nx (σ.set i (some v)) H1) : tAsg te (gName i) D σ H :=
  h F H (Gw.refl sf) iw _ fun F1 H1 v g1 i1 s1 => k F1 H1 v g1 i1 s1
theorem s_ret (sf : Same F H) (iw : W.I F H) (h : Pr W te σ F H a) (k : ∀ F1 H1 v, Gw W.M F H F1 H1 → W.I F1 H1 → a.sat F1 v → D.rt v H1) : tRet te D σ H :=
  h F H (Gw.refl sf) iw _ fun F1 H1 v g1 i1 s1 => k F1 H1 v g1 i1 s1
theorem q_drop (sf : Same F H) (iw : W.I F H) (h : Pr W te σ F H a) (k : ∀ F1 H1 v, Gw W.M F H F1 H1 → W.I F1 H1 → a.sat F1 v → tz D σ H1) : tSeq (tDrop te) tz D σ H :=
  h F H (Gw.refl sf) iw _ fun F1 H1 v g1 i1 s1 => k F1 H1 v g1 i1 s1
theorem q_if {b : Bool} (sf : Same F H) (iw : W.I F H) (h : PrT W t σ F H b) (h1 : b = true → ∀ F1 H1, Gw W.M F H F1 H1 → W.I F1 H1 → tu { D with nx := tz D } σ H1) (h2 : b = false → ∀ F1 H1, Gw W.M F H F1 H1 → W.I F1 H1 → tw { D with nx := tz D } σ H1) : tSeq (tIfS t tu tw) tz D σ H :=
  h F H (Gw.refl sf) iw _ fun F1 H1 g1 i1 => by
    cases b with
    | true => exact h1 rfl F1 H1 g1 i1
    | false => exact h2 rfl F1 H1 g1 i1
/-- an if without else -/
theorem q_when {b : Bool} (sf : Same F H) (iw : W.I F H) (h : PrT W t σ F H b) (h1 : b = true → ∀ F1 H1, Gw W.M F H F1 H1 → W.I F1 H1 → tu { D with nx := tz D } σ H1) (h2 : b = false → ∀ F1 H1, Gw W.M F H F1 H1 → W.I F1 H1 → tz D σ H1) : tSeq (tIfS t tu tNext) tz D σ H := q_if sf iw h h1 h2
theorem s_when {b : Bool} (sf : Same F H) (iw : W.I F H) (h : PrT W t σ F H b) (h1 : b = true → ∀ F1 H1, Gw W.M F H F1 H1 → W.I F1 H1 → tu D σ H1) (h2 : b = false → ∀ F1 H1, Gw W.M F H F1 H1 → W.I F1 H1 → D.nx σ H1) : tIfS t tu tNext D σ H :=
  h F H (Gw.refl sf) iw _ fun F1 H1 g1 i1 => by
    cases b with
    | true => exact h1 rfl F1 H1 g1 i1
    | false => exact h2 rfl F1 H1 g1 i1
theorem s_if {b : Bool} (sf : Same F H) (iw : W.I F H) (h : PrT W t σ F H b) (h1 : b = true → ∀ F1 H1, Gw W.M F H F1 H1 → W.I F1 H1 → tu D σ H1) (h2 : b = false → ∀ F1 H1, Gw W.M F H F1 H1 → W.I F1 H1 → tw D σ H1) : tIfS t tu tw D σ H :=
  h F H (Gw.refl sf) iw _ fun F1 H1 g1 i1 => by
    cases b with
    | true => exact h1 rfl F1 H1 g1 i1
    | false => exact h2 rfl F1 H1 g1 i1
/-- xs.append(e), xs a list that stands unfrozen -/
theorem q_append {i : Nat} {l : Addr} {xs : List V} (sf : Same F H) (iw : W.I F H) (hv : σ[i]? = some (some (.ref l))) (hl : H l = some (.lst xs)) (hM : l ∉ W.M) (hz : xs.length ≤ 10000) (h : Pr W te σ F H a)
    (k : ∀ F1 H1 v, Gw W.M F H F1 H1 → W.I F1 H1 → a.sat F1 v → tz D σ (upd H1 l (.lst (xs ++ [v])))) : tSeq (tDrop (tBM K "list" rAppend (tVar i) (tCons te tNil))) tz D σ H :=
  ⟨_, hv, .inl ⟨rfl, _, SqL.of hl⟩, h F H (Gw.refl sf) iw _ fun F1 H1 v g1 i1 s1 => ⟨l, xs, v, rfl, rfl, g1.keep l _ hM hl, sz4000 hz, k F1 H1 v g1 i1 s1⟩⟩
theorem s_append {i : Nat} {l : Addr} {xs : List V} (sf : Same F H) (iw : W.I F H) (hv : σ[i]? = some (some (.ref l))) (hl : H l = some (.lst xs)) (hM : l ∉ W.M) (hz : xs.length ≤ 10000) (h : Pr W te σ F H a)
    (k : ∀ F1 H1 v, Gw W.M F H F1 H1 → W.I F1 H1 → a.sat F1 v → D.nx σ (upd H1 l (.lst (xs ++ [v])))) : tDrop (tBM K "list" rAppend (tVar i) (tCons te tNil)) D σ H :=
  ⟨_, hv, .inl ⟨rfl, _, SqL.of hl⟩, h F H (Gw.refl sf) iw _ fun F1 H1 v g1 i1 s1 => ⟨l, xs, v, rfl, rfl, g1.keep l _ hM hl, sz4000 hz, k F1 H1 v g1 i1 s1⟩⟩
/-- for x in range(n) -/
theorem q_forR {j : Nat} {n : Nat} (sf : Same F H) (iw : W.I F H) (h : Pr W te σ F H (.dt (.int n))) (hn : n ≤ 100000) (Pv : Nat → L2.St → Hp → Prop) (h0 : ∀ F1 H1, Gw W.M F H F1 H1 → W.I F1 H1 → Pv 0 σ H1)
    (hs : ∀ (i : Nat) σ' H', i < n → Pv i σ' H' → tu { D with nx := Pv (i + 1), ct := Pv (i + 1), bk := tz D } (σ'.set j (some (.int (i : Int)))) H') (hd : ∀ σ' H', Pv n σ' H' → tz D σ' H') : tSeq (tFor (iRng1 (tCons te tNil)) (gName j) tu) tz D σ H :=
  h F H (Gw.refl sf) iw _ fun F1 H1 v g1 i1 s1 => by
    cases s1
    refine ⟨(n : Int), rfl, by omega, by omega, ?_⟩
    rw [Int.toNat_natCast]
    refine for_range (lo := 0) (n := n) Pv (h0 F1 H1 g1 i1) (fun i σ' H' hi p => ?_) hd
    have e0 : (0 : Int) + (i : Int) = (i : Int) := Int.zero_add _
    rw [e0]
    exact hs i σ' H' hi p
/-- for x in t, t a tuple, a list of data -/
theorem q_forT {g : TG} {items : List PyData} (sf : Same F H) (iw : W.I F H) (h : Pr W te σ F H (.dt (.tuple items)))
    (k : ∀ F1 H1, Gw W.M F H F1 H1 → W.I F1 H1 → ∃ Pv : Nat → L2.St → Hp → Prop, Pv 0 σ H1 ∧ (∀ i σ' H', Pv i σ' H' → Same F1 H') ∧
      (∀ i d x σ' H', items[i]? = some d → Dt F1 x d → Pv i σ' H' → g x σ' H' fun σ2 H2 => tu { D with nx := Pv (i + 1), ct := Pv (i + 1), bk := tz D } σ2 H2) ∧ ∀ σ' H', Pv items.length σ' H' → tz D σ' H') : tSeq (tFor (iTup K te) g tu) tz D σ H :=
  h F H (Gw.refl sf) iw _ fun F1 H1 v g1 i1 s1 => by
    obtain ⟨Pv, p0, p1, p2, p3⟩ := k F1 H1 g1 i1
    cases s1 with
    | @tup a xs _ h1 h2 =>
      refine ⟨a, rfl, ⟨xs, sqt_rd (rd_mono g1.fh h1)⟩, for_tup (K := K) (a := a) (xs := xs) Pv p0 (fun i σ' H' _ p => sqt_rd (rd_mono (p1 i σ' H' p) h1)) (fun i x σ' H' hx p => ?_) (by rw [h2.len]; exact p3)⟩
      obtain ⟨d, hd, dx⟩ := h2.get hx
      exact p2 i d x σ' H' hd dx p
theorem q_forL {g : TG} {items : List PyData} (sf : Same F H) (iw : W.I F H) (h : Pr W te σ F H (.dt (.list items)))
    (k : ∀ F1 H1, Gw W.M F H F1 H1 → W.I F1 H1 → ∃ Pv : Nat → L2.St → Hp → Prop, Pv 0 σ H1 ∧ (∀ i σ' H', Pv i σ' H' → Same F1 H') ∧
      (∀ i d x σ' H', items[i]? = some d → Dt F1 x d → Pv i σ' H' → g x σ' H' fun σ2 H2 => tu { D with nx := Pv (i + 1), ct := Pv (i + 1), bk := tz D } σ2 H2) ∧ ∀ σ' H', Pv items.length σ' H' → tz D σ' H') : tSeq (tFor (iList K te) g tu) tz D σ H :=
  h F H (Gw.refl sf) iw _ fun F1 H1 v g1 i1 s1 => by
    obtain ⟨Pv, p0, p1, p2, p3⟩ := k F1 H1 g1 i1
    cases s1 with
    | @lst a xs _ h1 h2 =>
      refine ⟨a, rfl, ⟨xs, SqL.of (g1.fh _ _ h1)⟩, for_list (K := K) (a := a) (xs := xs) Pv p0 (fun i σ' H' _ p => SqL.of (p1 i σ' H' p _ _ h1)) (fun i x σ' H' hx p => ?_) (by rw [h2.len]; exact p3)⟩
      obtain ⟨d, hd, dx⟩ := h2.get hx
      exact p2 i d x σ' H' hd dx p
end
end K39
end

section
set_option Elab.async false
set_option linter.all false
set_option maxRecDepth 100000
set_option maxHeartbeats 2000000
namespace K39
open PySem PySem.Spec PyProof.Rows L2

/-! ### the text by places -/
def top (i : Nat) : Stmt := PySem.Challenge.pw_truelevels_k39_desk_refuses.main.body.getD i (.Pass ⟨0, 0, 0, 0⟩)

/-! ### a desk's fields -/
theorem e_marks_rows : (("marks" : Str) = "rows") = False := eq_false (by decide +kernel)
theorem b_rows_marks : (("rows" : Str) == ("marks" : Str)) = false := by decide +kernel
theorem e_marks_next : (("marks" : Str) = "next") = False := eq_false (by decide +kernel)
theorem b_next_marks : (("next" : Str) == ("marks" : Str)) = false := by decide +kernel
theorem e_marks_k : (("marks" : Str) = "k") = False := eq_false (by decide +kernel)
theorem b_k_marks : (("k" : Str) == ("marks" : Str)) = false := by decide +kernel
theorem e_marks_entries : (("marks" : Str) = "entries") = False := eq_false (by decide +kernel)
theorem b_entries_marks : (("entries" : Str) == ("marks" : Str)) = false := by decide +kernel
theorem e_marks_before : (("marks" : Str) = "before") = False := eq_false (by decide +kernel)
theorem b_before_marks : (("before" : Str) == ("marks" : Str)) = false := by decide +kernel
theorem e_marks_can_mark : (("marks" : Str) = "can_mark") = False := eq_false (by decide +kernel)
theorem b_can_mark_marks : (("can_mark" : Str) == ("marks" : Str)) = false := by decide +kernel
theorem e_marks_can_read : (("marks" : Str) = "can_read") = False := eq_false (by decide +kernel)
theorem b_can_read_marks : (("can_read" : Str) == ("marks" : Str)) = false := by decide +kernel
theorem e_marks_can_do : (("marks" : Str) = "can_do") = False := eq_false (by decide +kernel)
theorem b_can_do_marks : (("can_do" : Str) == ("marks" : Str)) = false := by decide +kernel
theorem e_marks_do : (("marks" : Str) = "do") = False := eq_false (by decide +kernel)
theorem b_do_marks : (("do" : Str) == ("marks" : Str)) = false := by decide +kernel
theorem e_marks_log : (("marks" : Str) = "log") = False := eq_false (by decide +kernel)
theorem b_log_marks : (("log" : Str) == ("marks" : Str)) = false := by decide +kernel
theorem e_marks_readings : (("marks" : Str) = "readings") = False := eq_false (by decide +kernel)
theorem b_readings_marks : (("readings" : Str) == ("marks" : Str)) = false := by decide +kernel
theorem e_marks_numbers : (("marks" : Str) = "numbers") = False := eq_false (by decide +kernel)
theorem b_numbers_marks : (("numbers" : Str) == ("marks" : Str)) = false := by decide +kernel
theorem e_marks_net : (("marks" : Str) = "net") = False := eq_false (by decide +kernel)
theorem b_net_marks : (("net" : Str) == ("marks" : Str)) = false := by decide +kernel
theorem e_marks_bound : (("marks" : Str) = "bound") = False := eq_false (by decide +kernel)
theorem b_bound_marks : (("bound" : Str) == ("marks" : Str)) = false := by decide +kernel
theorem e_marks_parts : (("marks" : Str) = "parts") = False := eq_false (by decide +kernel)
theorem b_parts_marks : (("parts" : Str) == ("marks" : Str)) = false := by decide +kernel
theorem e_rows_marks : (("rows" : Str) = "marks") = False := eq_false (by decide +kernel)
theorem b_marks_rows : (("marks" : Str) == ("rows" : Str)) = false := by decide +kernel
theorem e_rows_next : (("rows" : Str) = "next") = False := eq_false (by decide +kernel)
theorem b_next_rows : (("next" : Str) == ("rows" : Str)) = false := by decide +kernel
theorem e_rows_k : (("rows" : Str) = "k") = False := eq_false (by decide +kernel)
theorem b_k_rows : (("k" : Str) == ("rows" : Str)) = false := by decide +kernel
theorem e_rows_entries : (("rows" : Str) = "entries") = False := eq_false (by decide +kernel)
theorem b_entries_rows : (("entries" : Str) == ("rows" : Str)) = false := by decide +kernel
theorem e_rows_before : (("rows" : Str) = "before") = False := eq_false (by decide +kernel)
theorem b_before_rows : (("before" : Str) == ("rows" : Str)) = false := by decide +kernel
theorem e_rows_can_mark : (("rows" : Str) = "can_mark") = False := eq_false (by decide +kernel)
theorem b_can_mark_rows : (("can_mark" : Str) == ("rows" : Str)) = false := by decide +kernel
theorem e_rows_can_read : (("rows" : Str) = "can_read") = False := eq_false (by decide +kernel)
theorem b_can_read_rows : (("can_read" : Str) == ("rows" : Str)) = false := by decide +kernel
theorem e_rows_can_do : (("rows" : Str) = "can_do") = False := eq_false (by decide +kernel)
theorem b_can_do_rows : (("can_do" : Str) == ("rows" : Str)) = false := by decide +kernel
theorem e_rows_do : (("rows" : Str) = "do") = False := eq_false (by decide +kernel)
theorem b_do_rows : (("do" : Str) == ("rows" : Str)) = false := by decide +kernel
theorem e_rows_log : (("rows" : Str) = "log") = False := eq_false (by decide +kernel)
theorem b_log_rows : (("log" : Str) == ("rows" : Str)) = false := by decide +kernel
theorem e_rows_readings : (("rows" : Str) = "readings") = False := eq_false (by decide +kernel)
theorem b_readings_rows : (("readings" : Str) == ("rows" : Str)) = false := by decide +kernel
theorem e_rows_numbers : (("rows" : Str) = "numbers") = False := eq_false (by decide +kernel)
theorem b_numbers_rows : (("numbers" : Str) == ("rows" : Str)) = false := by decide +kernel
theorem e_rows_net : (("rows" : Str) = "net") = False := eq_false (by decide +kernel)
theorem b_net_rows : (("net" : Str) == ("rows" : Str)) = false := by decide +kernel
theorem e_rows_bound : (("rows" : Str) = "bound") = False := eq_false (by decide +kernel)
theorem b_bound_rows : (("bound" : Str) == ("rows" : Str)) = false := by decide +kernel
theorem e_rows_parts : (("rows" : Str) = "parts") = False := eq_false (by decide +kernel)
theorem b_parts_rows : (("parts" : Str) == ("rows" : Str)) = false := by decide +kernel
theorem e_next_marks : (("next" : Str) = "marks") = False := eq_false (by decide +kernel)
theorem b_marks_next : (("marks" : Str) == ("next" : Str)) = false := by decide +kernel
theorem e_next_rows : (("next" : Str) = "rows") = False := eq_false (by decide +kernel)
theorem b_rows_next : (("rows" : Str) == ("next" : Str)) = false := by decide +kernel
theorem e_next_k : (("next" : Str) = "k") = False := eq_false (by decide +kernel)
theorem b_k_next : (("k" : Str) == ("next" : Str)) = false := by decide +kernel
theorem e_next_entries : (("next" : Str) = "entries") = False := eq_false (by decide +kernel)
theorem b_entries_next : (("entries" : Str) == ("next" : Str)) = false := by decide +kernel
theorem e_next_before : (("next" : Str) = "before") = False := eq_false (by decide +kernel)
theorem b_before_next : (("before" : Str) == ("next" : Str)) = false := by decide +kernel
theorem e_next_can_mark : (("next" : Str) = "can_mark") = False := eq_false (by decide +kernel)
theorem b_can_mark_next : (("can_mark" : Str) == ("next" : Str)) = false := by decide +kernel
theorem e_next_can_read : (("next" : Str) = "can_read") = False := eq_false (by decide +kernel)
theorem b_can_read_next : (("can_read" : Str) == ("next" : Str)) = false := by decide +kernel
theorem e_next_can_do : (("next" : Str) = "can_do") = False := eq_false (by decide +kernel)
theorem b_can_do_next : (("can_do" : Str) == ("next" : Str)) = false := by decide +kernel
theorem e_next_do : (("next" : Str) = "do") = False := eq_false (by decide +kernel)
theorem b_do_next : (("do" : Str) == ("next" : Str)) = false := by decide +kernel
theorem e_next_log : (("next" : Str) = "log") = False := eq_false (by decide +kernel)
theorem b_log_next : (("log" : Str) == ("next" : Str)) = false := by decide +kernel
theorem e_next_readings : (("next" : Str) = "readings") = False := eq_false (by decide +kernel)
theorem b_readings_next : (("readings" : Str) == ("next" : Str)) = false := by decide +kernel
theorem e_next_numbers : (("next" : Str) = "numbers") = False := eq_false (by decide +kernel)
theorem b_numbers_next : (("numbers" : Str) == ("next" : Str)) = false := by decide +kernel
theorem e_next_net : (("next" : Str) = "net") = False := eq_false (by decide +kernel)
theorem b_net_next : (("net" : Str) == ("next" : Str)) = false := by decide +kernel
theorem e_next_bound : (("next" : Str) = "bound") = False := eq_false (by decide +kernel)
theorem b_bound_next : (("bound" : Str) == ("next" : Str)) = false := by decide +kernel
theorem e_next_parts : (("next" : Str) = "parts") = False := eq_false (by decide +kernel)
theorem b_parts_next : (("parts" : Str) == ("next" : Str)) = false := by decide +kernel
theorem e_k_marks : (("k" : Str) = "marks") = False := eq_false (by decide +kernel)
theorem b_marks_k : (("marks" : Str) == ("k" : Str)) = false := by decide +kernel
theorem e_k_rows : (("k" : Str) = "rows") = False := eq_false (by decide +kernel)
theorem b_rows_k : (("rows" : Str) == ("k" : Str)) = false := by decide +kernel
theorem e_k_next : (("k" : Str) = "next") = False := eq_false (by decide +kernel)
theorem b_next_k : (("next" : Str) == ("k" : Str)) = false := by decide +kernel
theorem e_k_entries : (("k" : Str) = "entries") = False := eq_false (by decide +kernel)
theorem b_entries_k : (("entries" : Str) == ("k" : Str)) = false := by decide +kernel
theorem e_k_before : (("k" : Str) = "before") = False := eq_false (by decide +kernel)
theorem b_before_k : (("before" : Str) == ("k" : Str)) = false := by decide +kernel
theorem e_k_can_mark : (("k" : Str) = "can_mark") = False := eq_false (by decide +kernel)
theorem b_can_mark_k : (("can_mark" : Str) == ("k" : Str)) = false := by decide +kernel
theorem e_k_can_read : (("k" : Str) = "can_read") = False := eq_false (by decide +kernel)
theorem b_can_read_k : (("can_read" : Str) == ("k" : Str)) = false := by decide +kernel
theorem e_k_can_do : (("k" : Str) = "can_do") = False := eq_false (by decide +kernel)
theorem b_can_do_k : (("can_do" : Str) == ("k" : Str)) = false := by decide +kernel
theorem e_k_do : (("k" : Str) = "do") = False := eq_false (by decide +kernel)
theorem b_do_k : (("do" : Str) == ("k" : Str)) = false := by decide +kernel
theorem e_k_log : (("k" : Str) = "log") = False := eq_false (by decide +kernel)
theorem b_log_k : (("log" : Str) == ("k" : Str)) = false := by decide +kernel
theorem e_k_readings : (("k" : Str) = "readings") = False := eq_false (by decide +kernel)
theorem b_readings_k : (("readings" : Str) == ("k" : Str)) = false := by decide +kernel
theorem e_k_numbers : (("k" : Str) = "numbers") = False := eq_false (by decide +kernel)
theorem b_numbers_k : (("numbers" : Str) == ("k" : Str)) = false := by decide +kernel
theorem e_k_net : (("k" : Str) = "net") = False := eq_false (by decide +kernel)
theorem b_net_k : (("net" : Str) == ("k" : Str)) = false := by decide +kernel
theorem e_k_bound : (("k" : Str) = "bound") = False := eq_false (by decide +kernel)
theorem b_bound_k : (("bound" : Str) == ("k" : Str)) = false := by decide +kernel
theorem e_k_parts : (("k" : Str) = "parts") = False := eq_false (by decide +kernel)
theorem b_parts_k : (("parts" : Str) == ("k" : Str)) = false := by decide +kernel
theorem e_entries_marks : (("entries" : Str) = "marks") = False := eq_false (by decide +kernel)
theorem b_marks_entries : (("marks" : Str) == ("entries" : Str)) = false := by decide +kernel
theorem e_entries_rows : (("entries" : Str) = "rows") = False := eq_false (by decide +kernel)
theorem b_rows_entries : (("rows" : Str) == ("entries" : Str)) = false := by decide +kernel
theorem e_entries_next : (("entries" : Str) = "next") = False := eq_false (by decide +kernel)
theorem b_next_entries : (("next" : Str) == ("entries" : Str)) = false := by decide +kernel
theorem e_entries_k : (("entries" : Str) = "k") = False := eq_false (by decide +kernel)
theorem b_k_entries : (("k" : Str) == ("entries" : Str)) = false := by decide +kernel
theorem e_entries_before : (("entries" : Str) = "before") = False := eq_false (by decide +kernel)
theorem b_before_entries : (("before" : Str) == ("entries" : Str)) = false := by decide +kernel
theorem e_entries_can_mark : (("entries" : Str) = "can_mark") = False := eq_false (by decide +kernel)
theorem b_can_mark_entries : (("can_mark" : Str) == ("entries" : Str)) = false := by decide +kernel
theorem e_entries_can_read : (("entries" : Str) = "can_read") = False := eq_false (by decide +kernel)
theorem b_can_read_entries : (("can_read" : Str) == ("entries" : Str)) = false := by decide +kernel
theorem e_entries_can_do : (("entries" : Str) = "can_do") = False := eq_false (by decide +kernel)
theorem b_can_do_entries : (("can_do" : Str) == ("entries" : Str)) = false := by decide +kernel
theorem e_entries_do : (("entries" : Str) = "do") = False := eq_false (by decide +kernel)
theorem b_do_entries : (("do" : Str) == ("entries" : Str)) = false := by decide +kernel
theorem e_entries_log : (("entries" : Str) = "log") = False := eq_false (by decide +kernel)
theorem b_log_entries : (("log" : Str) == ("entries" : Str)) = false := by decide +kernel
theorem e_entries_readings : (("entries" : Str) = "readings") = False := eq_false (by decide +kernel)
theorem b_readings_entries : (("readings" : Str) == ("entries" : Str)) = false := by decide +kernel
theorem e_entries_numbers : (("entries" : Str) = "numbers") = False := eq_false (by decide +kernel)
theorem b_numbers_entries : (("numbers" : Str) == ("entries" : Str)) = false := by decide +kernel
theorem e_entries_net : (("entries" : Str) = "net") = False := eq_false (by decide +kernel)
theorem b_net_entries : (("net" : Str) == ("entries" : Str)) = false := by decide +kernel
theorem e_entries_bound : (("entries" : Str) = "bound") = False := eq_false (by decide +kernel)
theorem b_bound_entries : (("bound" : Str) == ("entries" : Str)) = false := by decide +kernel
theorem e_entries_parts : (("entries" : Str) = "parts") = False := eq_false (by decide +kernel)
theorem b_parts_entries : (("parts" : Str) == ("entries" : Str)) = false := by decide +kernel
theorem e_before_marks : (("before" : Str) = "marks") = False := eq_false (by decide +kernel)
theorem b_marks_before : (("marks" : Str) == ("before" : Str)) = false := by decide +kernel
theorem e_before_rows : (("before" : Str) = "rows") = False := eq_false (by decide +kernel)
theorem b_rows_before : (("rows" : Str) == ("before" : Str)) = false := by decide +kernel
theorem e_before_next : (("before" : Str) = "next") = False := eq_false (by decide +kernel)
theorem b_next_before : (("next" : Str) == ("before" : Str)) = false := by decide +kernel
theorem e_before_k : (("before" : Str) = "k") = False := eq_false (by decide +kernel)
theorem b_k_before : (("k" : Str) == ("before" : Str)) = false := by decide +kernel
theorem e_before_entries : (("before" : Str) = "entries") = False := eq_false (by decide +kernel)
theorem b_entries_before : (("entries" : Str) == ("before" : Str)) = false := by decide +kernel
theorem e_before_can_mark : (("before" : Str) = "can_mark") = False := eq_false (by decide +kernel)
theorem b_can_mark_before : (("can_mark" : Str) == ("before" : Str)) = false := by decide +kernel
theorem e_before_can_read : (("before" : Str) = "can_read") = False := eq_false (by decide +kernel)
theorem b_can_read_before : (("can_read" : Str) == ("before" : Str)) = false := by decide +kernel
theorem e_before_can_do : (("before" : Str) = "can_do") = False := eq_false (by decide +kernel)
theorem b_can_do_before : (("can_do" : Str) == ("before" : Str)) = false := by decide +kernel
theorem e_before_do : (("before" : Str) = "do") = False := eq_false (by decide +kernel)
theorem b_do_before : (("do" : Str) == ("before" : Str)) = false := by decide +kernel
theorem e_before_log : (("before" : Str) = "log") = False := eq_false (by decide +kernel)
theorem b_log_before : (("log" : Str) == ("before" : Str)) = false := by decide +kernel
theorem e_before_readings : (("before" : Str) = "readings") = False := eq_false (by decide +kernel)
theorem b_readings_before : (("readings" : Str) == ("before" : Str)) = false := by decide +kernel
theorem e_before_numbers : (("before" : Str) = "numbers") = False := eq_false (by decide +kernel)
theorem b_numbers_before : (("numbers" : Str) == ("before" : Str)) = false := by decide +kernel
theorem e_before_net : (("before" : Str) = "net") = False := eq_false (by decide +kernel)
theorem b_net_before : (("net" : Str) == ("before" : Str)) = false := by decide +kernel
theorem e_before_bound : (("before" : Str) = "bound") = False := eq_false (by decide +kernel)
theorem b_bound_before : (("bound" : Str) == ("before" : Str)) = false := by decide +kernel
theorem e_before_parts : (("before" : Str) = "parts") = False := eq_false (by decide +kernel)
theorem b_parts_before : (("parts" : Str) == ("before" : Str)) = false := by decide +kernel
def fsD (pm pr : Addr) (num k : Int) (le lb : Addr) : List (Str × V) := [("marks", V.ref pm), ("rows", V.ref pr), ("next", V.int num), ("k", V.int k), ("entries", V.ref le), ("before", V.ref lb)]
section
variable {pm pr le lb q : Addr} {num k z : Int}
theorem lk_marks : (fsD pm pr num k le lb).lookup ("marks" : Str) = some (.ref pm) := by
  simp only [fsD, List.lookup, beq_self_eq_true]
theorem lk_rows : (fsD pm pr num k le lb).lookup ("rows" : Str) = some (.ref pr) := by
  simp only [fsD, List.lookup, b_rows_marks, beq_self_eq_true]
theorem lk_next : (fsD pm pr num k le lb).lookup ("next" : Str) = some (.int num) := by
  simp only [fsD, List.lookup, b_next_marks, b_next_rows, beq_self_eq_true]
theorem lk_k : (fsD pm pr num k le lb).lookup ("k" : Str) = some (.int k) := by
  simp only [fsD, List.lookup, b_k_marks, b_k_rows, b_k_next, beq_self_eq_true]
theorem lk_entries : (fsD pm pr num k le lb).lookup ("entries" : Str) = some (.ref le) := by
  simp only [fsD, List.lookup, b_entries_marks, b_entries_rows, b_entries_next, b_entries_k, beq_self_eq_true]
theorem lk_before : (fsD pm pr num k le lb).lookup ("before" : Str) = some (.ref lb) := by
  simp only [fsD, List.lookup, b_before_marks, b_before_rows, b_before_next, b_before_k, b_before_entries, beq_self_eq_true]
theorem lk_can_mark : (fsD pm pr num k le lb).lookup ("can_mark" : Str) = none := by
  simp only [fsD, List.lookup, b_can_mark_marks, b_can_mark_rows, b_can_mark_next, b_can_mark_k, b_can_mark_entries, b_can_mark_before]
theorem lk_can_read : (fsD pm pr num k le lb).lookup ("can_read" : Str) = none := by
  simp only [fsD, List.lookup, b_can_read_marks, b_can_read_rows, b_can_read_next, b_can_read_k, b_can_read_entries, b_can_read_before]
theorem lk_can_do : (fsD pm pr num k le lb).lookup ("can_do" : Str) = none := by
  simp only [fsD, List.lookup, b_can_do_marks, b_can_do_rows, b_can_do_next, b_can_do_k, b_can_do_entries, b_can_do_before]
theorem lk_do : (fsD pm pr num k le lb).lookup ("do" : Str) = none := by
  simp only [fsD, List.lookup, b_do_marks, b_do_rows, b_do_next, b_do_k, b_do_entries, b_do_before]
theorem lk_log : (fsD pm pr num k le lb).lookup ("log" : Str) = none := by
  simp only [fsD, List.lookup, b_log_marks, b_log_rows, b_log_next, b_log_k, b_log_entries, b_log_before]
theorem lk_readings : (fsD pm pr num k le lb).lookup ("readings" : Str) = none := by
  simp only [fsD, List.lookup, b_readings_marks, b_readings_rows, b_readings_next, b_readings_k, b_readings_entries, b_readings_before]
theorem lk_numbers : (fsD pm pr num k le lb).lookup ("numbers" : Str) = none := by
  simp only [fsD, List.lookup, b_numbers_marks, b_numbers_rows, b_numbers_next, b_numbers_k, b_numbers_entries, b_numbers_before]
theorem lk_net : (fsD pm pr num k le lb).lookup ("net" : Str) = none := by
  simp only [fsD, List.lookup, b_net_marks, b_net_rows, b_net_next, b_net_k, b_net_entries, b_net_before]
theorem lk_bound : (fsD pm pr num k le lb).lookup ("bound" : Str) = none := by
  simp only [fsD, List.lookup, b_bound_marks, b_bound_rows, b_bound_next, b_bound_k, b_bound_entries, b_bound_before]
theorem lk_parts : (fsD pm pr num k le lb).lookup ("parts" : Str) = none := by
  simp only [fsD, List.lookup, b_parts_marks, b_parts_rows, b_parts_next, b_parts_k, b_parts_entries, b_parts_before]
theorem pt_marks : putF "marks" (.ref q) (fsD pm pr num k le lb) = fsD q pr num k le lb := by
  simp only [fsD, putF, if_true, if_false]
theorem pt_rows : putF "rows" (.ref q) (fsD pm pr num k le lb) = fsD pm q num k le lb := by
  simp only [fsD, putF, e_marks_rows, if_true, if_false]
theorem pt_next : putF "next" (.int z) (fsD pm pr num k le lb) = fsD pm pr z k le lb := by
  simp only [fsD, putF, e_marks_next, e_rows_next, if_true, if_false]
theorem pt_k : putF "k" (.int z) (fsD pm pr num k le lb) = fsD pm pr num z le lb := by
  simp only [fsD, putF, e_marks_k, e_rows_k, e_next_k, if_true, if_false]
theorem pt_init : putF "before" (.ref lb) (putF "entries" (.ref le) (putF "k" (.int k) (putF "next" (.int num) (putF "rows" (.ref pr) (putF "marks" (.ref pm) ([])))))) = fsD pm pr num k le lb := by
  simp only [fsD, putF, e_marks_rows, e_marks_next, e_marks_k, e_marks_entries, e_marks_before, e_rows_next, e_rows_k, e_rows_entries, e_rows_before, e_next_k, e_next_entries, e_next_before, e_k_entries, e_k_before, e_entries_before, if_true, if_false]
end
/-! ### what the top has written -/
structure Txt (K : PySem.W.Frag) (w : World) (mg : Str → Option Value) (C dl : Addr) : Prop where
  len_ : mg "len" = none
  isinstance_ : mg "isinstance" = none
  abs_ : mg "abs" = none
  all_ : mg "all" = none
  int_ : mg "int" = none
  str_ : mg "str" = none
  bool_ : mg "bool" = none
  tuple_ : mg "tuple" = none
  list_ : mg "list" = none
  range : mg "range" = none
  ValueError_ : mg "ValueError" = none
  gLETTERS : ∃ u, mg "LETTERS" = some u ∧ RelV (.str letters) u
  gMOST_MARKS : ∃ u, mg "MOST_MARKS" = some u ∧ RelV (.int 16) u
  gMOST_READINGS : ∃ u, mg "MOST_READINGS" = some u ∧ RelV (.int 80) u
  gMOST_VALUE : ∃ u, mg "MOST_VALUE" = some u ∧ RelV (.int 1000000) u
  gMOST_BOUND : ∃ u, mg "MOST_BOUND" = some u ∧ RelV (.int 20) u
  gMOST_ENTRIES : ∃ u, mg "MOST_ENTRIES" = some u ∧ RelV (.int 1000) u
  gLENGTHS : ∃ u, mg "LENGTHS" = some u ∧ RelV (.ref dl) u
  kd : ∃ es n, KDict K w dl es n
  kmark : ∃ u, PySem.W.nsIn K dl "mark" = some (some u) ∧ RelV (.int 2) u
  kread : ∃ u, PySem.W.nsIn K dl "read" = some (some u) ∧ RelV (.int 4) u
  kdrop : ∃ u, PySem.W.nsIn K dl "drop" = some (some u) ∧ RelV (.int 2) u
  kbound : ∃ u, PySem.W.nsIn K dl "bound" = some (some u) ∧ RelV (.int 2) u
  kmarks : PySem.W.nsIn K dl "marks" = some none
  cl : Cls K C
  gDesk : mg "Desk" = some (.ref C)
  nmarks : NoAttr K C "marks"
  nrows : NoAttr K C "rows"
  nnext : NoAttr K C "next"
  nk : NoAttr K C "k"
  nentries : NoAttr K C "entries"
  nbefore : NoAttr K C "before"
/-- a def of the module: its function object -/
structure Df (K : PySem.W.Frag) (mg : Str → Option Value) (x : Str) (st : Stmt) : Prop where
  ex : ∃ f fd, Fun K x x st f fd ∧ mg x = some (.ref f)
/-- a method, found at the class at C -/
structure Dm (K : PySem.W.Frag) (C : Addr) (x qual : Str) (st : Stmt) : Prop where
  ex : ∃ f fd, Fun K x qual st f fd ∧ Meth K C x f
/-- a def that keeps its promise, by its name -/
structure Cl (P : Program) (w : World) (K : PySem.W.Frag) (mg : Str → Option Value) (base : Heap) (CX : CXT) (k : Nat) (x : Str) (sp : Sp) : Prop where
  ex : ∃ f fd ps, FnOk P w K mg base CX k f fd ps sp ∧ mg x = some (.ref f) ∧ PySem.W.keepIn K (.ref f) = true ∧ Binds K fd ps []
structure Ml (P : Program) (w : World) (K : PySem.W.Frag) (mg : Str → Option Value) (base : Heap) (C : Addr) (CX : CXT) (k : Nat) (m : Str) (sp : Sp) : Prop where
  cl : Cls K C
  ex : ∃ f fd ps, FnOk P w K mg base CX k f fd ps sp ∧ Meth K C m f ∧ Binds K fd ps []
section
variable {X : Cx} {CX : CXT} {k j : Nat} {x m : Str} {sp : Sp} {C : Addr} {E : XK} {e o : Expr} {es : List Expr} {ta : TE} {t : TA} {p pos apos : Pos}
theorem pe_g {v : V} (h : ∃ u, X.mg x = some u ∧ RelV v u) (hg : Gl X x := by rfl) (hd : (x == ("__debug__" : Str)) = false := by decide) : PE X (.Name x pos) (tC v) := by
  obtain ⟨u, h1, h2⟩ := h
  exact pe_glob hg h1 h2 hd
theorem ix_tupK {X : Cx} (K : PySem.W.Frag) (h : X.K = K := by rfl) : IxR X (rIxT K) := h ▸ ix_tup
theorem ix_listK {X : Cx} (K : PySem.W.Frag) (h : X.K = K := by rfl) : IxR X (rIxL K) := h ▸ ix_list
theorem pe_fldK {X : Cx} (K : PySem.W.Frag) {f : Str} (he : PE X e ta) (hb : attributeBase e f X.env (eval e X.env) = eval e X.env) (h : X.K = K := by rfl) : PE X (.Attribute e f pos) (tFld K ta f) := h ▸ pe_fld he hb
theorem pe_cl (c : Cl X.prog X.w X.K X.mg X.base CX0 k x sp) (hr : Room j X.A) (hk : k ≤ j) (hg : Gl X x) (ha : PA X (e :: es) t) (hdb : (x == ("__debug__" : Str)) = false := by decide)
    (he : starEach (e :: es) X.env = (false, eval e X.env) :: starEach es X.env := by rfl) (hpl : (backTo pos (starEach es X.env)).any (·.1) = false := by rfl) : PE X (.Call (.Name x p) (e :: es) [] pos) (tCall sp [] E0 t) := by
  obtain ⟨f, fd, ps, G, hm, hkp, hb⟩ := c.ex
  exact pe_call G (hr.mono hk) hg hm hkp hb .nil pass0 ha hdb he hpl
theorem pe_ml {pl : Sem Bool} (c : Ml X.prog X.w X.K X.mg X.base C CX0 k m sp) (hr : Room j X.A) (hk : k ≤ j) (ho : PE X o ta) (ha : PA X (e :: es) t)
    (hst : starEach (e :: es) X.env = (false, eval e X.env) :: starEach es X.env := by rfl) (hpl : (backTo pos (starEach es X.env)).any (·.1) = false := by rfl)
    (ht : eval (.Call (.Attribute o m apos) (e :: es) [] pos) X.env = (do
      let ov ← eval o X.env
      standAt apos.atName
      let (f, first) ← holding [ov] (getMethod ov m pl)
      callWith pos f first (backTo pos (starEach (e :: es) X.env)) (backToKw pos (keywordEach [] X.env))) := by rfl) : PE X (.Call (.Attribute o m apos) (e :: es) [] pos) (tMeth C m sp [] E0 ta t) := by
  obtain ⟨f, fd, ps, G, hm, hb⟩ := c.ex
  exact pe_meth ho c.cl hm G (hr.mono hk) hb .nil pass0 ha hst hpl ht
theorem pe_ml0 {pl : Sem Bool} (c : Ml X.prog X.w X.K X.mg X.base C CX0 k m sp) (hr : Room j X.A) (hk : k ≤ j) (ho : PE X o ta)
    (ht : eval (.Call (.Attribute o m apos) [] [] pos) X.env =
      (do
      let ov ← eval o X.env
      standAt apos.atName
      let (f, first) ← holding [ov] (getMethod ov m pl)
      callWith pos f first (backTo pos (starEach [] X.env)) (backToKw pos (keywordEach [] X.env))) := by rfl) : PE X (.Call (.Attribute o m apos) [] [] pos) (tMeth C m sp [] E0 ta tNil) := by
  obtain ⟨f, fd, ps, G, hm, hb⟩ := c.ex
  exact pe_meth0 ho c.cl hm G (hr.mono hk) hb .nil pass0 ht
/-- a method that may raise, where its error is wished for -/
theorem pe_mlE {pl : Sem Bool} (c : Ml X.prog X.w X.K X.mg X.base C CX k m sp) (hr : Room j X.A) (hk : k ≤ j) (hx : Passes CX X E) (ho : PE X o ta) (ha : PA X (e :: es) t)
    (hst : starEach (e :: es) X.env = (false, eval e X.env) :: starEach es X.env := by rfl) (hpl : (backTo pos (starEach es X.env)).any (·.1) = false := by rfl)
    (ht : eval (.Call (.Attribute o m apos) (e :: es) [] pos) X.env = (do
      let ov ← eval o X.env
      standAt apos.atName
      let (f, first) ← holding [ov] (getMethod ov m pl)
      callWith pos f first (backTo pos (starEach (e :: es) X.env)) (backToKw pos (keywordEach [] X.env))) := by rfl) : PE X (.Call (.Attribute o m apos) (e :: es) [] pos) (tMeth C m sp [] E ta t) := by
  obtain ⟨f, fd, ps, G, hm, hb⟩ := c.ex
  exact pe_meth ho c.cl hm G (hr.mono hk) hb .nil hx ha hst hpl ht
end
section
variable {P : Program} {w : World} {K : PySem.W.Frag} {mg : Str → Option Value} {base : Heap} {C : Addr}
/-- a def of the module keeps its promise -/
theorem cl_of {x : Str} {st : Stmt} {N ps : List Str} {k : Nat} {sp : Sp} (F : Df K mg x st) (S : FnScope N ps (defScope st)) (len : ∀ vs H Q E, sp vs H Q E → vs.length = ps.length)
    (hb : ∀ (kV doc pm : Value) (an : Option Addr) (cdv ct : Value) (us : List Value), us.length = ps.length → bindArgs (PySem.W.fnOf x x (defArgs st) (defBody st) (defScope st) .none kV doc pm an cdv ct) ⟨us, []⟩ = pure (ps.zip us))
    (hbody : ∀ (f : Addr) (cdv : Value) (A : Around) (outer : List Env) (s : Shared) (H : Hp) (vs : List V) (Q : VK) (E : XK), Room k (A.deeper (envOfC x (defScope st) s.heap.objs.size f cdv)) → sp vs H Q E →
      ∃ t, PSs (cxOf CX0 P w K mg base N x (defScope st) f cdv A outer s H E).nox (defBody st) t ∧ t { nx := fun _ H' => Q .non H', rt := Q } (start N vs) H) : Cl P w K mg base CX0 (k + 1) x sp := by
  obtain ⟨f, fd, Fn, hm⟩ := F.ex
  exact ⟨f, fd, ps, Fn.ok S len fun cdv A outer s H vs Q E hr h => hbody f cdv A outer s H vs Q E hr h, hm, Fn.kp, Fn.binds hb⟩
theorem ml_of {x qual : Str} {st : Stmt} {N ps : List Str} {k : Nat} {sp : Sp} (c : Cls K C) (F : Dm K C x qual st) (S : FnScope N ps (defScope st)) (len : ∀ vs H Q E, sp vs H Q E → vs.length = ps.length)
    (hb : ∀ (kV doc pm : Value) (an : Option Addr) (cdv ct : Value) (us : List Value), us.length = ps.length → bindArgs (PySem.W.fnOf x qual (defArgs st) (defBody st) (defScope st) .none kV doc pm an cdv ct) ⟨us, []⟩ = pure (ps.zip us))
    (hbody : ∀ (f : Addr) (cdv : Value) (A : Around) (outer : List Env) (s : Shared) (H : Hp) (vs : List V) (Q : VK) (E : XK), Room k (A.deeper (envOfC qual (defScope st) s.heap.objs.size f cdv)) → sp vs H Q E →
      ∃ t, PSs (cxOf CX0 P w K mg base N qual (defScope st) f cdv A outer s H E).nox (defBody st) t ∧ t { nx := fun _ H' => Q .non H', rt := Q } (start N vs) H) : Ml P w K mg base C CX0 (k + 1) x sp := by
  obtain ⟨f, fd, Fn, hm⟩ := F.ex
  exact ⟨c, f, fd, ps, Fn.ok S len fun cdv A outer s H vs Q E hr h => hbody f cdv A outer s H vs Q E hr h, hm, Fn.binds hb⟩
theorem cl_ofX {x : Str} {st : Stmt} {N ps : List Str} {k : Nat} {sp : Sp} (F : Df K mg x st) (S : FnScope N ps (defScope st)) (len : ∀ vs H Q E, sp vs H Q E → vs.length = ps.length)
    (hb : ∀ (kV doc pm : Value) (an : Option Addr) (cdv ct : Value) (us : List Value), us.length = ps.length → bindArgs (PySem.W.fnOf x x (defArgs st) (defBody st) (defScope st) .none kV doc pm an cdv ct) ⟨us, []⟩ = pure (ps.zip us))
    (hbody : ∀ (f : Addr) (cdv : Value) (A : Around) (outer : List Env) (s : Shared) (H : Hp) (vs : List V) (Q : VK) (E : XK), Room k (A.deeper (envOfC x (defScope st) s.heap.objs.size f cdv)) → sp vs H Q E →
      ∃ t, PSs (cxOf (L2.CX P w) P w K mg base N x (defScope st) f cdv A outer s H E) (defBody st) t ∧ t { nx := fun _ H' => Q .non H', rt := Q } (start N vs) H) : Cl P w K mg base (L2.CX P w) (k + 1) x sp := by
  obtain ⟨f, fd, Fn, hm⟩ := F.ex
  exact ⟨f, fd, ps, Fn.okX S len fun cdv A outer s H vs Q E hr h => hbody f cdv A outer s H vs Q E hr h, hm, Fn.kp, Fn.binds hb⟩
theorem ml_ofX {x qual : Str} {st : Stmt} {N ps : List Str} {k : Nat} {sp : Sp} (c : Cls K C) (F : Dm K C x qual st) (S : FnScope N ps (defScope st)) (len : ∀ vs H Q E, sp vs H Q E → vs.length = ps.length)
    (hb : ∀ (kV doc pm : Value) (an : Option Addr) (cdv ct : Value) (us : List Value), us.length = ps.length → bindArgs (PySem.W.fnOf x qual (defArgs st) (defBody st) (defScope st) .none kV doc pm an cdv ct) ⟨us, []⟩ = pure (ps.zip us))
    (hbody : ∀ (f : Addr) (cdv : Value) (A : Around) (outer : List Env) (s : Shared) (H : Hp) (vs : List V) (Q : VK) (E : XK), Room k (A.deeper (envOfC qual (defScope st) s.heap.objs.size f cdv)) → sp vs H Q E →
      ∃ t, PSs (cxOf (L2.CX P w) P w K mg base N qual (defScope st) f cdv A outer s H E) (defBody st) t ∧ t { nx := fun _ H' => Q .non H', rt := Q } (start N vs) H) : Ml P w K mg base C (L2.CX P w) (k + 1) x sp := by
  obtain ⟨f, fd, Fn, hm⟩ := F.ex
  exact ⟨c, f, fd, ps, Fn.okX S len fun cdv A outer s H vs Q E hr h => hbody f cdv A outer s H vs Q E hr h, hm, Fn.binds hb⟩
end

/-! ### a desk, a box -/
/-- a tuple of its own, with no dict: its methods may be called -/
def NoDict (F : Hp) (a : Addr) : Prop := ∃ o xs, F a = some (.frz o (.tup xs)) ∧ o.dict = none
structure DeskAt (C p le lb : Addr) (m : Md) (es : List PyData) (F H : Hp) : Prop where
  ins : ∃ dx pm pr, H p = some (.ins C dx (fsD pm pr m.num m.k le lb)) ∧ Dt F (.ref pm) (.tuple (m.marks.map .str)) ∧ Dt F (.ref pr) (.tuple (m.rows.map Row.d)) ∧ (m.marks = [] ∨ NoDict F pm)
  ent : ∃ vs, H le = some (.lst vs) ∧ DtA F vs es
  bef : ∃ bs, H lb = some (.lst bs) ∧ bs.length ≤ es.length
  fp : F p = none
  fe : F le = none
  fb : F lb = none
  ne : le ≠ lb
def deskW (C p le lb : Addr) (m : Md) (es : List PyData) : Wd where
  M := []
  own := [p, le, lb]
  I := DeskAt C p le lb m es
  sub := fun _ h => nomatch h
  al := fun F H d x hx => by
    obtain ⟨_, _, _, e1, _⟩ := d.ins
    obtain ⟨_, e2, _⟩ := d.ent
    obtain ⟨_, e3, _⟩ := d.bef
    simp only [List.mem_cons, List.not_mem_nil, or_false] at hx
    rcases hx with rfl | rfl | rfl
    · exact nn e1
    · exact nn e2
    · exact nn e3
  st' := fun F H F' H' sf ow d => by
    obtain ⟨dx, pm, pr, e1, h1, h2, h5⟩ := d.ins
    obtain ⟨vs, e2, h3⟩ := d.ent
    obtain ⟨bs, e3, h4⟩ := d.bef
    obtain ⟨a1, b1⟩ := ow p (by simp)
    obtain ⟨a2, b2⟩ := ow le (by simp)
    obtain ⟨a3, b3⟩ := ow lb (by simp)
    exact ⟨⟨dx, pm, pr, b1.trans e1, h1.mono sf, h2.mono sf, h5.imp_right fun ⟨o, xs, e, n⟩ => ⟨o, xs, sf _ _ e, n⟩⟩, ⟨vs, b2.trans e2, h3.mono sf⟩, ⟨bs, b3.trans e3, h4⟩, a1.trans d.fp, a2.trans d.fe, a3.trans d.fb, d.ne⟩
structure BoxAt (box : Addr) (F H : Hp) : Prop where
  at_ : ∃ dg n ds, H box = some (.lst [.ref dg, .int n]) ∧ 0 ≤ n ∧ F dg = some (.lst (List.map V.int ds))
  fb : F box = none
def boxW (box : Addr) : Wd where
  M := [box]
  own := [box]
  I := BoxAt box
  sub := fun _ h => h
  al := fun F H d x hx => by
    obtain ⟨_, _, _, e1, _⟩ := d.at_
    have : x = box := by simpa using hx
    rw [this]
    exact nn e1
  st' := fun F H F' H' sf ow d => by
    obtain ⟨dg, n, ds, e1, h1, h2⟩ := d.at_
    obtain ⟨a1, b1⟩ := ow box (by simp)
    exact ⟨⟨dg, n, ds, b1.trans e1, h1, sf _ _ h2⟩, a1.trans d.fb⟩
/-- the kinds that a deed of ours may name -/
def kinds : List Str := ["mark", "read", "drop", "bound", "marks"]
def KOk (d : PyData) : Prop := ∀ k r, d = .tuple (.str k :: r) → k ∈ kinds
end K39
end

section
set_option Elab.async false
set_option linter.all false
set_option maxRecDepth 100000
set_option maxHeartbeats 4000000
namespace K39
open PySem PySem.Spec PyProof.Rows L2

/-! ### isinstance of data -/
def tyN : PyData → String
  | .none => "NoneType"
  | .bool _ => "bool"
  | .int _ => "int"
  | .str _ => "str"
  | .list _ => "list"
  | .tuple _ => "tuple"
  | .dict _ => "dict"
theorem ty_of {K : PySem.W.Frag} {F H : Hp} {v : V} {d : PyData} (sf : Same F H) (h : Dt F v d) : TyX K H v (.type (tyN d)) := by
  cases h with
  | bl b => exact .base (.bl b)
  | int i => exact .base (.int i)
  | str x => exact .base (.str x)
  | lst e _ => exact .base (.lst (sf _ _ e))
  | tup e _ =>
    rcases e with e | ⟨o, e⟩
    · exact .base (.tup (sf _ _ e))
    · exact .fTuple (sf _ _ e)
theorem k_NoneType_int : kitB "NoneType" "int" = some false := by decide +kernel
theorem k_NoneType_bool : kitB "NoneType" "bool" = some false := by decide +kernel
theorem k_NoneType_str : kitB "NoneType" "str" = some false := by decide +kernel
theorem k_NoneType_tuple : kitB "NoneType" "tuple" = some false := by decide +kernel
theorem k_bool_int : kitB "bool" "int" = some true := by decide +kernel
theorem k_bool_bool : kitB "bool" "bool" = some true := by decide +kernel
theorem k_bool_str : kitB "bool" "str" = some false := by decide +kernel
theorem k_bool_tuple : kitB "bool" "tuple" = some false := by decide +kernel
theorem k_int_int : kitB "int" "int" = some true := by decide +kernel
theorem k_int_bool : kitB "int" "bool" = some false := by decide +kernel
theorem k_int_str : kitB "int" "str" = some false := by decide +kernel
theorem k_int_tuple : kitB "int" "tuple" = some false := by decide +kernel
theorem k_str_int : kitB "str" "int" = some false := by decide +kernel
theorem k_str_bool : kitB "str" "bool" = some false := by decide +kernel
theorem k_str_str : kitB "str" "str" = some true := by decide +kernel
theorem k_str_tuple : kitB "str" "tuple" = some false := by decide +kernel
theorem k_list_int : kitB "list" "int" = some false := by decide +kernel
theorem k_list_bool : kitB "list" "bool" = some false := by decide +kernel
theorem k_list_str : kitB "list" "str" = some false := by decide +kernel
theorem k_list_tuple : kitB "list" "tuple" = some false := by decide +kernel
theorem k_tuple_int : kitB "tuple" "int" = some false := by decide +kernel
theorem k_tuple_bool : kitB "tuple" "bool" = some false := by decide +kernel
theorem k_tuple_str : kitB "tuple" "str" = some false := by decide +kernel
theorem k_tuple_tuple : kitB "tuple" "tuple" = some true := by decide +kernel
theorem k_dict_int : kitB "dict" "int" = some false := by decide +kernel
theorem k_dict_bool : kitB "dict" "bool" = some false := by decide +kernel
theorem k_dict_str : kitB "dict" "str" = some false := by decide +kernel
theorem k_dict_tuple : kitB "dict" "tuple" = some false := by decide +kernel
theorem k_str_no {d : PyData} (h : ¬ ∃ x, d = .str x) : kitB (tyN d) "str" = some false := by
  cases d with
  | str x => exact absurd ⟨x, rfl⟩ h
  | none => exact k_NoneType_str
  | bool _ => exact k_bool_str
  | int _ => exact k_int_str
  | list _ => exact k_list_str
  | tuple _ => exact k_tuple_str
  | dict _ => exact k_dict_str
theorem k_tuple_no {d : PyData} (h : ¬ ∃ x, d = .tuple x) : kitB (tyN d) "tuple" = some false := by
  cases d with
  | tuple x => exact absurd ⟨x, rfl⟩ h
  | none => exact k_NoneType_tuple
  | bool _ => exact k_bool_tuple
  | int _ => exact k_int_tuple
  | list _ => exact k_list_tuple
  | str _ => exact k_str_tuple
  | dict _ => exact k_dict_tuple
theorem pr_isi {W : Wd} {σ : L2.St} {F H : Hp} {te : TE} {d : PyData} {K : PySem.W.Frag} {T : String} {b : Bool} (hk : kitB (tyN d) T = some b) (h : Pr W te σ F H (.dt d)) : Pr W (tCB (rIsi K) (tCons te (tCons (tC (.ty T)) tNil))) σ F H (.dt (.bool b)) :=
  pr_cb (as := [.dt d, .raw (.ty T)]) (pra_cons h (pra_cons pr_c pra_nil)) fun F1 H1 vs sf _ ha Q q => by
    obtain ⟨v, r, rfl, hv, w, r', rfl, rfl, rfl⟩ := ha
    exact ⟨v, .ty T, _, _, b, rfl, .ty T, ty_of sf hv, kit_ty hk, q F1 H1 _ (Gw.refl sf) (.bl b)⟩

section
variable {P : Program} {w : World} {K : PySem.W.Frag} {mg : Str → Option Value} {base : Heap} {C dl : Addr}

/-! ### is_integer -/
-- slots: 0 thing
abbrev s_is_integer : Stmt := top 16
theorem sc_is_integer : FnScope ["thing"] ["thing"] (defScope s_is_integer) := ⟨rfl, rfl, rfl, by decide +kernel, rfl, by decide +kernel, by decide +kernel⟩
def sp_is_integer : Sp := fun vs H Q _ => ∃ (F : Hp) (v : V) (d : PyData), vs = [v] ∧ Same F H ∧ Dt F v d ∧ ∀ F' H', Gw [] F H F' H' → Q (.bl (isInt d)) H'
theorem sg_is_integer {W : Wd} {d : PyData} : Sg W sp_is_integer [.dt d] (.dt (.bool (isInt d))) := fun F H vs sf i ha Q E q => by
  obtain ⟨v, r, rfl, hv, rfl⟩ := ha
  exact ⟨F, v, d, rfl, sf, hv, fun F' H' g => q F' H' _ g.pure (W.st _ _ _ _ g i) (.bl _)⟩
theorem ok_is_integer (F : Df K mg "is_integer" s_is_integer) (T : Txt K w mg C dl) : Cl P w K mg base CX0 1 "is_integer" sp_is_integer := by
  refine cl_of F sc_is_integer (fun vs H Q E h => ?_) (fun _ _ _ _ _ _ us hl => match us, hl with | [_], _ => rfl) fun f cdv A outer s H vs Q E hr h => ?_
  · obtain ⟨_, _, _, rfl, _⟩ := h
    rfl
  · obtain ⟨F, v, d, rfl, sf, hv, q⟩ := h
    refine ⟨_, (pss_one (ps_ret (pe_and (pe_callB call_isi (by rfl) T.isinstance_ PyProof.Rows.boot_isinstance (pa_cons (pv 0) (pa_cons (pe_bltn (v := .ty "int") (by rfl) T.int_ (by decide +kernel) rfl) pa_nil))) (pe_one (pe_not (pe_callB call_isi (by rfl) T.isinstance_ PyProof.Rows.boot_isinstance (pa_cons (pv 0) (pa_cons (pe_bltn (v := .ty "bool") (by rfl) T.bool_ (by decide +kernel) rfl) pa_nil)))))))), ?_⟩
    have e : (start ["thing"] [v]) = [some v] := rfl
    rw [e]
    refine s_ret (W := w0) (F := F) (a := .dt (.bool (isInt d))) sf trivial ?_ fun F1 H1 x g _ hx => by cases hx; exact q F1 H1 g
    cases d with
    | none => cases hv
    | dict _ => cases hv
    | bool b => exact pr_to (pr_and (k := true) (l := false) (pr_isi (d := .bool b) k_bool_int (pr_dt rfl hv)) fun _ => pr_not (k := true) (pr_isi (d := .bool b) k_bool_bool (pr_dt rfl hv))) rfl
    | int b => exact pr_to (pr_and (k := true) (l := true) (pr_isi (d := .int b) k_int_int (pr_dt rfl hv)) fun _ => pr_not (k := false) (pr_isi (d := .int b) k_int_bool (pr_dt rfl hv))) rfl
    | str b => exact pr_to (pr_and (k := false) (l := false) (pr_isi (d := .str b) k_str_int (pr_dt rfl hv)) fun z => nomatch z) rfl
    | list b => exact pr_to (pr_and (k := false) (l := false) (pr_isi (d := .list b) k_list_int (pr_dt rfl hv)) fun z => nomatch z) rfl
    | tuple b => exact pr_to (pr_and (k := false) (l := false) (pr_isi (d := .tuple b) k_tuple_int (pr_dt rfl hv)) fun z => nomatch z) rfl

/-! ### is_name -/
-- slots: 0 thing, 1 letter
abbrev s_is_name : Stmt := top 17
theorem sc_is_name : FnScope ["thing", "letter"] ["thing"] (defScope s_is_name) := ⟨rfl, rfl, rfl, by decide +kernel, rfl, by decide +kernel, by decide +kernel⟩
def Short (d : PyData) : Prop := ∀ s, d = .str s → s.length ≤ 1000
def sp_is_name : Sp := fun vs H Q _ => ∃ (F : Hp) (v : V) (d : PyData), vs = [v] ∧ Same F H ∧ Dt F v d ∧ Short d ∧ ∀ F' H', Gw [] F H F' H' → Q (.bl (isName d)) H'
theorem sg_is_name {W : Wd} {d : PyData} (hs : Short d) : Sg W sp_is_name [.dt d] (.dt (.bool (isName d))) := fun F H vs sf i ha Q E q => by
  obtain ⟨v, r, rfl, hv, rfl⟩ := ha
  exact ⟨F, v, d, rfl, sf, hv, hs, fun F' H' g => q F' H' _ g.pure (W.st _ _ _ _ g i) (.bl _)⟩
theorem all_map (l : List Nat) : (l.map fun c => decide (c ∈ letters.cps.toList)).all id = l.all fun c => decide (c ∈ letters.cps.toList) := by
  induction l with
  | nil => rfl
  | cons a r ih => rw [List.map_cons, List.all_cons, List.all_cons, ih]; rfl
theorem ok_is_name (F : Df K mg "is_name" s_is_name) (T : Txt K w mg C dl) : Cl P w K mg base CX0 1 "is_name" sp_is_name := by
  refine cl_of F sc_is_name (fun vs H Q E h => ?_) (fun _ _ _ _ _ _ us hl => match us, hl with | [_], _ => rfl) fun f cdv A outer s H vs Q E hr h => ?_
  · obtain ⟨_, _, _, rfl, _⟩ := h
    rfl
  · obtain ⟨F, v, d, rfl, sf, hv, hs, q⟩ := h
    refine ⟨_, (pss_cons (ps_if (PW.pt (pw_or (pt_not (pt_val (pe_callB call_isi (by rfl) T.isinstance_ PyProof.Rows.boot_isinstance (pa_cons (pv 0) (pa_cons (pe_bltn (v := .ty "str") (by rfl) T.str_ (by decide +kernel) rfl) pa_nil))))) (pw_or1 (pt_not (pt_chain op_le op_le pe_int (pe_callB call_len_str (by rfl) T.len_ PySem.boot_len (pa_cons (pv 0) pa_nil)) pe_int))))) (pss_one (ps_ret pe_bl)) pss_nil) (pss_one (ps_ret (pe_callB (cr_all rfl) (by rfl) T.all_ (by decide +kernel) (pa_cons (pe_lc (own := [("letter", 1)]) (g := gName 1) rfl sc_is_name.nd (pi_str (pv 0)) (blkOk_by (N := ["thing", "letter"]) (sc := defScope s_is_name) (by decide +kernel)) (fun _ _ _ _ _ => pg_name (i := 1) sc_is_name.nd rfl (Or.inl rfl)) (fun _ _ _ _ _ => pts_nil) (fun _ _ _ _ _ => (pe_cmpR op_inS (pv 1) (pe_g T.gLETTERS) (by rfl)))) pa_nil))))), ?_⟩
    have e : (start ["thing", "letter"] [v]) = [some v, none] := rfl
    rw [e]
    have ret0 : isName d = false → ∀ {D : Ends} {F1 H1 : Hp}, D.rt = Q → Gw [] F H F1 H1 → tRet (tC (.bl false)) D [some v, none] H1 := fun hn D F1 H1 hD g => by
      show D.rt (.bl false) H1
      rw [hD, ← hn]
      exact q F1 H1 g
    by_cases hstr : ∃ x, d = .str x
    · obtain ⟨x, rfl⟩ := hstr
      have hl := hs x rfl
      have hc : Pr w0 (tChain (rI0 fun i j => V.bl (decide (i ≤ j))) (rI0 fun i j => V.bl (decide (i ≤ j))) (tC (V.int 1)) (tCB (fun xs H Q => ∃ z, xs = [.str z] ∧ z.length ≤ sizeLine ∧ Q (.int z.length) H) (tCons (tVar 0) tNil)) (tC (V.int 8))) [some v, none] F H (.dt (.bool (decide ((1 : Int) ≤ (x.length : Int) ∧ (x.length : Int) ≤ 8)))) :=
        pr_chain pr_int (pr_lenS (sz1000 hl) (pr_dt rfl hv)) pr_int
      refine q_when (W := w0) (F := F) (b := !decide ((1 : Int) ≤ (x.length : Int) ∧ (x.length : Int) ≤ 8)) sf trivial (prt_to (prt_or (k := false) (prt_not (k := true) (prt_B (pr_isi (d := .str x) k_str_str (pr_dt rfl hv)))) fun _ => prt_not (prt_test hc)) (Bool.false_or _)) (fun hb F1 H1 g1 _ => ?_) (fun hb F1 H1 g1 _ => ?_)
      · refine ret0 ?_ rfl g1
        have hb' : ¬ ((1 : Int) ≤ (x.length : Int) ∧ (x.length : Int) ≤ 8) := by
          rw [Bool.not_eq_true'] at hb
          exact of_decide_eq_false hb
        show isNameS x = false
        unfold isNameS
        by_cases c1 : 1 ≤ x.length
        · have c2 : ¬ x.length ≤ 8 := by omega
          simp [c2]
        · simp [c1]
      · have hb' : (1 : Int) ≤ (x.length : Int) ∧ (x.length : Int) ≤ 8 := by
          rw [Bool.not_eq_false'] at hb
          exact of_decide_eq_true hb
        refine s_ret (W := w0) (F := F1) (a := .dt (.bool (isName (.str x)))) g1.fh trivial ?_ ?_
        rotate_left
        · intro F2 H2 y g2 _ hy
          cases hy
          exact q F2 H2 (g1.trans g2)
        have hcomp : Pr w0 (tLc (iStr (tVar 0)) (gName 1) tYes (tOp rInS (tVar 1) (tC (.str letters))) [1]) [some v, none] F1 H1 (.dt (.list ((x.cps.toList.map fun c => decide (c ∈ letters.cps.toList)).map .bool))) := by
          rw [List.map_map]
          exact pr_lcS (fun c => .bool (decide (c ∈ letters.cps.toList))) (pr_dt rfl (hv.mono g1.ff)) hl (fun _ => rfl) fun c F3 H3 g3 _ => pr_inSign (pr_dt rfl (.str _)) pr_str
        refine pr_to (pr_all hcomp) ?_
        rw [all_map]
        show _ = PyData.bool (isNameS x)
        have h1 : 1 ≤ x.length := by omega
        have h2 : x.length ≤ 8 := by omega
        unfold isNameS
        simp [h1, h2]
    · have hn : isName d = false := by
        cases d with
        | str x => exact absurd ⟨x, rfl⟩ hstr
        | _ => rfl
      have hk : kitB (tyN d) "str" = some false := k_str_no hstr
      refine q_when (W := w0) (F := F) (b := true) sf trivial (prt_to (prt_or (k := true) (l := true) (prt_not (k := false) (prt_B (pr_isi hk (pr_dt rfl hv)))) fun z => nomatch z) rfl) (fun hb F1 H1 g1 _ => ret0 hn rfl g1) (fun hb => nomatch hb)
end
end K39
end

section
set_option Elab.async false
set_option linter.all false
set_option maxRecDepth 100000
set_option maxHeartbeats 4000000
namespace K39
open PySem PySem.Spec PyProof.Rows L2

section
variable {P : Program} {w : World} {K : PySem.W.Frag} {mg : Str → Option Value} {base : Heap} {C dl : Addr}

/-! ### is_shaped -/
-- slots: 0 deed
abbrev s_is_shaped : Stmt := top 18
theorem sc_is_shaped : FnScope ["deed"] ["deed"] (defScope s_is_shaped) := ⟨rfl, rfl, rfl, by decide +kernel, rfl, by decide +kernel, by decide +kernel⟩
theorem lens {k : Str} (T : Txt K w mg C dl) (hk : k ∈ kinds) : ∃ r, PySem.W.nsIn K dl k = some r ∧ r.isSome = (lenOf k).isSome ∧ ∀ n, lenOf k = some n → ∃ u, r = some u ∧ RelV (.int (n : Int)) u := by
  have n1 : lenOf "mark" = some 2 := by unfold lenOf; rw [if_pos rfl]
  have n2 : lenOf "read" = some 4 := by unfold lenOf; rw [if_neg n_rm, if_pos rfl]
  have n3 : lenOf "drop" = some 2 := by unfold lenOf; rw [if_neg n_dm, if_neg n_dr, if_pos rfl]
  have n4 : lenOf "bound" = some 2 := by unfold lenOf; rw [if_neg n_bm, if_neg n_br, if_neg n_bd, if_pos rfl]
  have n5 : lenOf "marks" = none := by decide +kernel
  simp only [kinds, List.mem_cons, List.not_mem_nil, or_false] at hk
  rcases hk with rfl | rfl | rfl | rfl | rfl
  · obtain ⟨u, e, r⟩ := T.kmark
    exact ⟨_, e, by rw [n1]; rfl, fun n hn => ⟨u, rfl, by rw [n1] at hn; cases hn; exact r⟩⟩
  · obtain ⟨u, e, r⟩ := T.kread
    exact ⟨_, e, by rw [n2]; rfl, fun n hn => ⟨u, rfl, by rw [n2] at hn; cases hn; exact r⟩⟩
  · obtain ⟨u, e, r⟩ := T.kdrop
    exact ⟨_, e, by rw [n3]; rfl, fun n hn => ⟨u, rfl, by rw [n3] at hn; cases hn; exact r⟩⟩
  · obtain ⟨u, e, r⟩ := T.kbound
    exact ⟨_, e, by rw [n4]; rfl, fun n hn => ⟨u, rfl, by rw [n4] at hn; cases hn; exact r⟩⟩
  · exact ⟨_, T.kmarks, by rw [n5]; rfl, fun n hn => by rw [n5] at hn; cases hn⟩
def sp_is_shaped : Sp := fun vs H Q _ => ∃ (F : Hp) (v : V) (d : PyData), vs = [v] ∧ Same F H ∧ Dt F v d ∧ KOk d ∧ ∀ F' H', Gw [] F H F' H' → Q (.bl (isShaped d)) H'
theorem sg_is_shaped {W : Wd} {d : PyData} (hs : KOk d) : Sg W sp_is_shaped [.dt d] (.dt (.bool (isShaped d))) := fun F H vs sf i ha Q E q => by
  obtain ⟨v, r, rfl, hv, rfl⟩ := ha
  exact ⟨F, v, d, rfl, sf, hv, hs, fun F' H' g => q F' H' _ g.pure (W.st _ _ _ _ g i) (.bl _)⟩
/-- k in LENGTHS -/
theorem pr_inKd {W : Wd} {σ : L2.St} {F H : Hp} {ta tb : TE} {k : Str} (T : Txt K w mg C dl) (hk : k ∈ kinds) (ha : Pr W ta σ F H (.dt (.str k))) (hb : Pr W tb σ F H (.raw (.ref dl))) :
    Pr W (tOp (fun x y H Q => ∃ (z : Str) (r : Option Value), x = .str z ∧ y = .ref dl ∧ PySem.W.nsIn K dl z = some r ∧ Q (.bl r.isSome) H) ta tb) σ F H (.dt (.bool (lenOf k).isSome)) :=
  pr_op ha hb fun F1 H1 x y sf _ hx hy Q q => by
    cases hx
    obtain ⟨r, e, e2, _⟩ := lens T hk
    refine ⟨k, r, rfl, hy, e, ?_⟩
    rw [e2]
    exact q F1 H1 _ (Gw.refl sf) (.bl _)
/-- LENGTHS[k] -/
theorem pr_ixKd {W : Wd} {σ : L2.St} {F H : Hp} {ta tb : TE} {k : Str} {n : Nat} (T : Txt K w mg C dl) (hk : k ∈ kinds) (hn : lenOf k = some n) (ha : Pr W ta σ F H (.raw (.ref dl))) (hb : Pr W tb σ F H (.dt (.str k))) : Pr W (tOp (rIxD K w) ta tb) σ F H (.dt (.int n)) :=
  pr_op ha hb fun F1 H1 x y sf _ hx hy Q q => by
    cases hy
    obtain ⟨r, e, _, e2⟩ := lens T hk
    obtain ⟨u, rfl, ru⟩ := e2 n hn
    obtain ⟨es, m, KD⟩ := T.kd
    exact ⟨dl, k, .int n, hx, rfl, ⟨es, m, u, KD.at_, KD.lit, e, ru⟩, q F1 H1 _ (Gw.refl sf) (.int _)⟩
theorem ok_is_shaped (F : Df K mg "is_shaped" s_is_shaped) (T : Txt K w mg C dl) : Cl P w K mg base CX0 1 "is_shaped" sp_is_shaped := by
  refine cl_of F sc_is_shaped (fun vs H Q E h => ?_) (fun _ _ _ _ _ _ us hl => match us, hl with | [_], _ => rfl) fun f cdv A outer s H vs Q E hr h => ?_
  · obtain ⟨_, _, _, rfl, _⟩ := h
    rfl
  · obtain ⟨F, v, d, rfl, sf, hv, hs, q⟩ := h
    obtain ⟨es, m, KD⟩ := T.kd
    refine ⟨_, (pss_cons (ps_if (PW.pt (pw_or (pt_not (pt_val (pe_callB call_isi (by rfl) T.isinstance_ PyProof.Rows.boot_isinstance (pa_cons (pv 0) (pa_cons (pe_bltn (v := .ty "tuple") (by rfl) T.tuple_ (by decide +kernel) rfl) pa_nil))))) (pw_or (pt_cmpR op_eq (pe_callB call_len_seq (by rfl) T.len_ PySem.boot_len (pa_cons (pv 0) pa_nil)) pe_int (nomark _)) (pw_or1 (pt_not (pt_val (pe_callB call_isi (by rfl) T.isinstance_ PyProof.Rows.boot_isinstance (pa_cons (pe_ix (ix_tupK K) (pv 0) pe_int (fun _ _ => rfl)) (pa_cons (pe_bltn (v := .ty "str") (by rfl) T.str_ (by decide +kernel) rfl) pa_nil))))))))) (pss_one (ps_ret pe_bl)) pss_nil) (pss_one (ps_ret (pe_and (pe_cmpR (op_in_kd KD) (pe_ix (ix_tupK K) (pv 0) pe_int (fun _ _ => rfl)) (pe_g T.gLENGTHS) (by rfl)) (pe_one (pe_cmpR op_eq (pe_callB call_len_seq (by rfl) T.len_ PySem.boot_len (pa_cons (pv 0) pa_nil)) (pe_ix ix_kdict (pe_g T.gLENGTHS) (pe_ix (ix_tupK K) (pv 0) pe_int (fun _ _ => rfl)) (fun _ _ => rfl)) (nomark _))))))), ?_⟩
    have e : (start ["deed"] [v]) = [some v] := rfl
    rw [e]
    have ret0 : isShaped d = false → ∀ {D : Ends} {F1 H1 : Hp}, D.rt = Q → Gw [] F H F1 H1 → tRet (tC (.bl false)) D [some v] H1 := fun hn D F1 H1 hD g => by
      show D.rt (.bl false) H1
      rw [hD, ← hn]
      exact q F1 H1 g
    by_cases htup : ∃ x, d = .tuple x
    · obtain ⟨r, rfl⟩ := htup
      have t1 : Pr w0 (tCB (rIsi K) (tCons (tVar 0) (tCons (tC (.ty "tuple")) tNil))) [some v] F H (.dt (.bool true)) := pr_isi (d := .tuple r) k_tuple_tuple (pr_dt rfl hv)
      cases r with
      | nil =>
        refine q_when (W := w0) (F := F) (b := true) sf trivial (prt_to (prt_or (k := false) (l := true) (prt_not (k := true) (prt_B t1)) fun _ => prt_or (k := true) (l := true) (prt_test (pr_to (pr_eqI (pr_lenT (pr_dt rfl hv)) pr_int) rfl)) fun z => nomatch z) rfl) (fun hb F1 H1 g1 _ => ret0 rfl rfl g1) (fun hb => nomatch hb)
      | cons d0 r =>
        have t2 : Pr w0 (tOp rEq (tCB (fun xs H Q => ∃ p ys, xs = [.ref p] ∧ (SqL K H p ys ∨ SqT K H p ys) ∧ Q (.int ys.length) H) (tCons (tVar 0) tNil)) (tC (.int 0))) [some v] F H (.dt (.bool false)) :=
          pr_to (pr_eqI (pr_lenT (pr_dt rfl hv)) pr_int) (congrArg PyData.bool (decide_eq_false (by rw [List.length_cons]; omega)))
        have i0 : ∀ {F1 H1 : Hp}, Gw [] F H F1 H1 → Pr w0 (tOp (rIxT K) (tVar 0) (tC (.int 0))) [some v] F1 H1 (.dt d0) := fun g => pr_ixT (n := 0) rfl rfl (pr_dt rfl (hv.mono g.ff)) pr_int
        by_cases hstr : ∃ x, d0 = .str x
        · obtain ⟨k, rfl⟩ := hstr
          have hk := hs k r rfl
          refine q_when (W := w0) (F := F) (b := false) sf trivial (prt_to (prt_or (k := false) (l := false) (prt_not (k := true) (prt_B t1)) fun _ => prt_or (k := false) (l := false) (prt_test t2) fun _ => prt_not (k := true) (prt_B (pr_isi (d := .str k) k_str_str (i0 (Gw.refl sf))))) rfl) (fun hb => nomatch hb) (fun hb F1 H1 g1 _ => ?_)
          refine s_ret (W := w0) (F := F1) (a := .dt (.bool (isShaped (.tuple (.str k :: r))))) g1.fh trivial ?_ ?_
          rotate_left
          · intro F2 H2 y g2 _ hy
            cases hy
            exact q F2 H2 (g1.trans g2)
          · cases hn : lenOf k with
            | none =>
              refine pr_to (pr_and (k := false) (l := false) (pr_to (pr_inKd T hk (i0 g1) pr_c) (by rw [hn]; rfl)) fun z => nomatch z) ?_
              show _ = PyData.bool (decide (lenOf k = some (r.length + 1)))
              rw [hn]
              rfl
            | some n =>
              refine pr_to (pr_and (k := true) (l := decide (((PyData.str k :: r).length : Int) = (n : Int))) (pr_to (pr_inKd T hk (i0 g1) pr_c) (by rw [hn]; rfl)) fun _ => pr_eqI (pr_lenT (pr_dt rfl (hv.mono g1.ff))) (pr_ixKd T hk hn pr_c (i0 g1))) ?_
              show _ = PyData.bool (decide (lenOf k = some (r.length + 1)))
              rw [hn, Bool.true_and, List.length_cons]
              refine congrArg PyData.bool ?_
              by_cases c : n = r.length + 1
              · rw [c]; simp
              · have c1 : ¬ ((r.length + 1 : Nat) : Int) = (n : Int) := by omega
                rw [decide_eq_false c1, decide_eq_false (fun z : some n = some (r.length + 1) => c (Option.some.inj z))]
        · have hn : isShaped (.tuple (d0 :: r)) = false := by
            cases d0 with
            | str x => exact absurd ⟨x, rfl⟩ hstr
            | _ => rfl
          refine q_when (W := w0) (F := F) (b := true) sf trivial (prt_to (prt_or (k := false) (l := true) (prt_not (k := true) (prt_B t1)) fun _ => prt_or (k := false) (l := true) (prt_test t2) fun _ => prt_not (k := false) (prt_B (pr_isi (k_str_no hstr) (i0 (Gw.refl sf))))) rfl) (fun hb F1 H1 g1 _ => ret0 hn rfl g1) (fun hb => nomatch hb)
    · have hn : isShaped d = false := by
        cases d with
        | tuple x => exact absurd ⟨x, rfl⟩ htup
        | _ => rfl
      refine q_when (W := w0) (F := F) (b := true) sf trivial (prt_to (prt_or (k := true) (l := true) (prt_not (k := false) (prt_B (pr_isi (k_tuple_no htup) (pr_dt rfl hv)))) fun z => nomatch z) rfl) (fun hb F1 H1 g1 _ => ret0 hn rfl g1) (fun hb => nomatch hb)
end
end K39
end

section
set_option Elab.async false
set_option linter.all false
set_option maxRecDepth 100000
set_option maxHeartbeats 4000000
namespace K39
open PySem PySem.Spec PyProof.Rows L2

/-! ### data that can be compared -/
def Sh (n : Nat) (d : PyData) : Prop := d.canLay0 = true ∧ d.depth ≤ n
theorem Sh.ok {n : Nat} {d : PyData} (h : Sh n d) (hn : n ≤ 64) : SeqAt.shaped d = true := by
  unfold SeqAt.shaped
  rw [h.1, Bool.true_and]
  exact decide_eq_true (Nat.le_trans h.2 hn)
theorem Sh.mono {n k : Nat} {d : PyData} (h : Sh n d) (hn : n ≤ k) : Sh k d := ⟨h.1, Nat.le_trans h.2 hn⟩
theorem Sh.plain {n : Nat} {d : PyData} (h : Sh n d) : d.plain = true := PyData.plain_of_canLay0 d h.1
theorem Sh.refl {n : Nat} {d : PyData} (h : Sh n d) : PyData.eqv d d = true := SeqAt.eqv_refl_plain d h.plain
theorem sh_int (i : Int) : Sh 1 (.int i) := ⟨by simp only [PyData.canLay0], by simp only [PyData.depth]; omega⟩
theorem sh_bool (i : Bool) : Sh 1 (.bool i) := ⟨by simp only [PyData.canLay0], by simp only [PyData.depth]; omega⟩
theorem sh_str {s : Str} (h : PySem.PyData.canLay0 (.str s) = true) : Sh 1 (.str s) := ⟨h, by simp only [PyData.depth]; omega⟩
theorem lay_all {ds : List PyData} (h : ∀ d ∈ ds, d.canLay0 = true) : PyData.canLayAll0 ds = true := by
  induction ds with
  | nil => simp only [PyData.canLayAll0]
  | cons d r ih =>
    simp only [PyData.canLayAll0, Bool.and_eq_true]
    exact ⟨h d List.mem_cons_self, ih fun x hx => h x (List.mem_cons_of_mem _ hx)⟩
theorem depth_all {ds : List PyData} {n : Nat} (h : ∀ d ∈ ds, d.depth ≤ n) : PyData.depthAll ds ≤ n := by
  induction ds with
  | nil => simp only [PyData.depthAll]; omega
  | cons d r ih =>
    have h1 := h d List.mem_cons_self
    have h2 := ih fun x hx => h x (List.mem_cons_of_mem _ hx)
    simp only [PyData.depthAll]
    omega
theorem sh_tup {ds : List PyData} {n : Nat} (h : ∀ d ∈ ds, Sh n d) : Sh (n + 1) (.tuple ds) := by
  refine ⟨?_, ?_⟩
  · simp only [PyData.canLay0]
    exact lay_all fun d hd => (h d hd).1
  · have := depth_all fun d hd => (h d hd).2
    simp only [PyData.depth]
    omega
theorem sh_lst {ds : List PyData} {n : Nat} (h : ∀ d ∈ ds, Sh n d) : Sh (n + 1) (.list ds) := by
  refine ⟨?_, ?_⟩
  · simp only [PyData.canLay0]
    exact lay_all fun d hd => (h d hd).1
  · have := depth_all fun d hd => (h d hd).2
    simp only [PyData.depth]
    omega
theorem letters_small : ∀ c ∈ letters.cps.toList, c < 0x110000 := by decide +kernel
theorem sh_name {s : Str} (h : isNameS s = true) : Sh 1 (.str s) := by
  refine sh_str ?_
  unfold isNameS at h
  simp only [Bool.and_eq_true, List.all_eq_true, decide_eq_true_eq] at h
  show s.cps.all (· < 0x110000) = true
  rw [Array.all_eq_true_iff_forall_mem]
  intro c hc
  exact decide_eq_true (letters_small c (h.2 c (Array.mem_toList_iff.mpr hc)))
theorem sh_names {l : List Str} (h : ∀ s ∈ l, isNameS s = true) : Sh 2 (.tuple (l.map .str)) := sh_tup fun d hd => by
  obtain ⟨s, hs, rfl⟩ := List.mem_map.mp hd
  exact sh_name (h s hs)
theorem sh_rd (r : Row) : Sh 2 r.rd := sh_tup fun d hd => by
  simp only [List.mem_cons, List.not_mem_nil, or_false] at hd
  rcases hd with rfl | rfl | rfl <;> exact sh_int _

/-! ### a desk's fields, read -/
section
variable {P : Program} {w : World} {K : PySem.W.Frag} {mg : Str → Option Value} {base : Heap} {C dl : Addr}
section
variable {W : Wd} {σ : L2.St} {F H : Hp} {te : TE} {p le lb : Addr} {m : Md} {es : List PyData} {i : Nat}
theorem pr_marks (T : Txt K w mg C dl) (hI : ∀ F H, W.I F H → DeskAt C p le lb m es F H) (h : σ[i]? = some (some (.ref p))) : Pr W (tFld K (tVar i) "marks") σ F H (.dt (.tuple (m.marks.map .str))) :=
  pr_fld (pr_var h) fun F H _ i => by
    obtain ⟨dx, pm, pr, e, h1, h2, _⟩ := (hI F H i).ins
    exact ⟨C, dx, _, _, e, T.cl, T.nmarks, lk_marks, h1⟩
theorem pr_rows (T : Txt K w mg C dl) (hI : ∀ F H, W.I F H → DeskAt C p le lb m es F H) (h : σ[i]? = some (some (.ref p))) : Pr W (tFld K (tVar i) "rows") σ F H (.dt (.tuple (m.rows.map Row.d))) :=
  pr_fld (pr_var h) fun F H _ i => by
    obtain ⟨dx, pm, pr, e, h1, h2, _⟩ := (hI F H i).ins
    exact ⟨C, dx, _, _, e, T.cl, T.nrows, lk_rows, h2⟩
theorem pr_next (T : Txt K w mg C dl) (hI : ∀ F H, W.I F H → DeskAt C p le lb m es F H) (h : σ[i]? = some (some (.ref p))) : Pr W (tFld K (tVar i) "next") σ F H (.dt (.int m.num)) :=
  pr_fld (pr_var h) fun F H _ i => by
    obtain ⟨dx, pm, pr, e, h1, h2, _⟩ := (hI F H i).ins
    exact ⟨C, dx, _, _, e, T.cl, T.nnext, lk_next, .int _⟩
theorem pr_k (T : Txt K w mg C dl) (hI : ∀ F H, W.I F H → DeskAt C p le lb m es F H) (h : σ[i]? = some (some (.ref p))) : Pr W (tFld K (tVar i) "k") σ F H (.dt (.int m.k)) :=
  pr_fld (pr_var h) fun F H _ i => by
    obtain ⟨dx, pm, pr, e, h1, h2, _⟩ := (hI F H i).ins
    exact ⟨C, dx, _, _, e, T.cl, T.nk, lk_k, .int _⟩
theorem pr_entries (T : Txt K w mg C dl) (hI : ∀ F H, W.I F H → DeskAt C p le lb m es F H) (h : σ[i]? = some (some (.ref p))) : Pr W (tFld K (tVar i) "entries") σ F H (.raw (.ref le)) :=
  pr_fld (pr_var h) fun F H _ i => by
    obtain ⟨dx, pm, pr, e, h1, h2, _⟩ := (hI F H i).ins
    exact ⟨C, dx, _, _, e, T.cl, T.nentries, lk_entries, rfl⟩
theorem pr_before (T : Txt K w mg C dl) (hI : ∀ F H, W.I F H → DeskAt C p le lb m es F H) (h : σ[i]? = some (some (.ref p))) : Pr W (tFld K (tVar i) "before") σ F H (.raw (.ref lb)) :=
  pr_fld (pr_var h) fun F H _ i => by
    obtain ⟨dx, pm, pr, e, h1, h2, _⟩ := (hI F H i).ins
    exact ⟨C, dx, _, _, e, T.cl, T.nbefore, lk_before, rfl⟩
/-- len(self.entries) -/
theorem pr_lenE (T : Txt K w mg C dl) (hI : ∀ F H, W.I F H → DeskAt C p le lb m es F H) (h : σ[i]? = some (some (.ref p))) :
    Pr W (tCB (fun xs H Q => ∃ p ys, xs = [.ref p] ∧ (SqL K H p ys ∨ SqT K H p ys) ∧ Q (.int ys.length) H) (tCons (tFld K (tVar i) "entries") tNil)) σ F H (.dt (.int es.length)) :=
  pr_cb (as := [.raw (.ref le)]) (pra_cons (pr_entries T hI h) pra_nil) fun F1 H1 vs sf iw ha Q q => by
    obtain ⟨v, r, rfl, rfl, rfl⟩ := ha
    obtain ⟨xs, e, hx⟩ := (hI F1 H1 iw).ent
    refine ⟨le, xs, rfl, .inl (SqL.of e), q F1 H1 _ (Gw.refl sf) ?_⟩
    rw [hx.len]
    exact .int _
end

/-! ### log -/
-- slots: 0 self
abbrev s_log : Stmt := inClass (top 19) 6
theorem sc_log : FnScope ["self"] ["self"] (defScope s_log) := ⟨rfl, rfl, rfl, by decide +kernel, rfl, by decide +kernel, by decide +kernel⟩
def sp_log (C : Addr) : Sp := fun vs H Q _ => ∃ (F : Hp) (p le lb : Addr) (m : Md) (es : List PyData), vs = [.ref p] ∧ Same F H ∧ DeskAt C p le lb m es F H ∧ ∀ F' H' v, Gw [] F H F' H' → Dt F' v (.tuple es) → Q v H'
theorem sg_log {W : Wd} {p le lb : Addr} {m : Md} {es : List PyData} (hI : ∀ F H, W.I F H → DeskAt C p le lb m es F H) : Sg W (sp_log C) [.raw (.ref p)] (.dt (.tuple es)) := fun F H vs sf i ha Q E q => by
  obtain ⟨v, r, rfl, rfl, rfl⟩ := ha
  exact ⟨F, p, le, lb, m, es, rfl, sf, hI F H i, fun F' H' v g hv => q F' H' v g.pure (W.st _ _ _ _ g i) hv⟩
theorem ok_log (F : Dm K C "log" "Desk.log" s_log) (T : Txt K w mg C dl) : Ml P w K mg base C CX0 1 "log" (sp_log C) := by
  refine ml_of T.cl F sc_log (fun vs H Q E h => ?_) (fun _ _ _ _ _ _ us hl => match us, hl with | [_], _ => rfl) fun f cdv A outer s H vs Q E hr h => ?_
  · obtain ⟨_, _, _, _, _, _, rfl, _⟩ := h
    rfl
  · obtain ⟨F, p, le, lb, m, es, rfl, sf, da, q⟩ := h
    refine ⟨_, (pss_one (ps_ret (pe_callTy call_tuple_of (by rfl) T.tuple_ boot_tuple (pa_cons (pe_fldK K (pv 0) rfl) pa_nil)))), ?_⟩
    have e : (start ["self"] [.ref p]) = [some (.ref p)] := rfl
    rw [e]
    obtain ⟨dx, pm, pr, e1, h1, h2, _⟩ := da.ins
    obtain ⟨xs, e2, hx⟩ := da.ent
    refine ⟨_, rfl, p, C, dx, _, _, rfl, e1, T.cl, T.nentries, lk_entries, le, xs, rfl, .inl ⟨SqL.of e2, fun l hl => ?_⟩⟩
    have g : Gw [] F H (upd F l (.tup xs)) (upd H l (.tup xs)) := (Gw.refl sf).frz hl
    exact q _ _ _ g (.tup (.inl upd_same) (hx.mono g.ff))

/-! ### readings, numbers -/
-- slots: 0 self, 1 row
abbrev s_readings : Stmt := inClass (top 19) 7
theorem sc_readings : FnScope ["self", "row"] ["self"] (defScope s_readings) := ⟨rfl, rfl, rfl, by decide +kernel, rfl, by decide +kernel, by decide +kernel⟩
-- slots: 0 self, 1 row
abbrev s_numbers : Stmt := inClass (top 19) 8
theorem sc_numbers : FnScope ["self", "row"] ["self"] (defScope s_numbers) := ⟨rfl, rfl, rfl, by decide +kernel, rfl, by decide +kernel, by decide +kernel⟩
def rdsD (m : Md) : PyData := .tuple (m.rows.map Row.rd)
def numsD (m : Md) : PyData := .tuple ((m.rows.map fun r => (r.n : Int)).map .int)
def sp_rd (C : Addr) (f : Md → PyData) : Sp := fun vs H Q _ => ∃ (F : Hp) (p le lb : Addr) (m : Md) (es : List PyData), vs = [.ref p] ∧ Same F H ∧ DeskAt C p le lb m es F H ∧ m.rows.length ≤ 10000 ∧ ∀ F' H' v, Gw [] F H F' H' → Dt F' v (f m) → Q v H'
theorem sg_rd {W : Wd} {f : Md → PyData} {p le lb : Addr} {m : Md} {es : List PyData} (hI : ∀ F H, W.I F H → DeskAt C p le lb m es F H) (hm : m.rows.length ≤ 10000) : Sg W (sp_rd C f) [.raw (.ref p)] (.dt (f m)) := fun F H vs sf i ha Q E q => by
  obtain ⟨v, r, rfl, rfl, rfl⟩ := ha
  exact ⟨F, p, le, lb, m, es, rfl, sf, hI F H i, hm, fun F' H' v g hv => q F' H' v g.pure (W.st _ _ _ _ g i) hv⟩
def item (j : Nat) (d : PyData) : PyData := match d with
  | .tuple ds => ds.getD j .none
  | _ => .none
theorem ok_readings (F : Dm K C "readings" "Desk.readings" s_readings) (T : Txt K w mg C dl) : Ml P w K mg base C CX0 1 "readings" (sp_rd C rdsD) := by
  refine ml_of T.cl F sc_readings (fun vs H Q E h => ?_) (fun _ _ _ _ _ _ us hl => match us, hl with | [_], _ => rfl) fun f cdv A outer s H vs Q E hr h => ?_
  · obtain ⟨_, _, _, _, _, _, rfl, _⟩ := h
    rfl
  · obtain ⟨F, p, le, lb, m, es, rfl, sf, da, hm, q⟩ := h
    refine ⟨_, (pss_one (ps_ret (pe_callTy call_tuple_of (by rfl) T.tuple_ boot_tuple (pa_cons (pe_lc (own := [("row", 1)]) (g := gName 1) rfl sc_readings.nd (pi_tup (pe_fldK K (pv 0) rfl)) (blkOk_by (N := ["self", "row"]) (sc := defScope s_readings) (by decide +kernel)) (fun _ _ _ _ _ => pg_name (i := 1) sc_readings.nd rfl (Or.inl rfl)) (fun _ _ _ _ _ => pts_nil) (fun _ _ _ _ _ => (pe_ix (ix_tupK K) (pv 1) pe_int (fun _ _ => rfl)))) pa_nil)))), ?_⟩
    have e : (start ["self", "row"] [.ref p]) = [some (.ref p), none] := rfl
    rw [e]
    refine s_ret (W := deskW C p le lb m es) (F := F) (a := .dt (rdsD m)) sf da ?_ fun F1 H1 x g _ hx => q F1 H1 x g hx
    have hc := pr_lcT (W := deskW C p le lb m es) (K := K) (σ := [some (.ref p), none]) (F := F) (H := H) (j := 1) (vs := [1]) (tt := tYes) (te' := tOp (rIxT K) (tVar 1) (tC (.int 1))) (fun _ => true) (item 1) (pr_rows (i := 0) T (fun _ _ z => z) rfl) (by rw [List.length_map]; exact hm) (fun _ => rfl)
      (fun d hd F1 H1 v g _ hv => prt_yes) (fun d hd F1 H1 v g _ hv _ => by
        obtain ⟨r, _, rfl⟩ := List.mem_map.mp hd
        exact pr_ixT (n := 1) rfl rfl (pr_dt rfl hv) pr_int)
    refine pr_tupleL (pr_to hc ?_)
    rw [List.filter_eq_self.mpr (fun _ _ => rfl), List.map_map]
    rfl
theorem ok_numbers (F : Dm K C "numbers" "Desk.numbers" s_numbers) (T : Txt K w mg C dl) : Ml P w K mg base C CX0 1 "numbers" (sp_rd C numsD) := by
  refine ml_of T.cl F sc_numbers (fun vs H Q E h => ?_) (fun _ _ _ _ _ _ us hl => match us, hl with | [_], _ => rfl) fun f cdv A outer s H vs Q E hr h => ?_
  · obtain ⟨_, _, _, _, _, _, rfl, _⟩ := h
    rfl
  · obtain ⟨F, p, le, lb, m, es, rfl, sf, da, hm, q⟩ := h
    refine ⟨_, (pss_one (ps_ret (pe_callTy call_tuple_of (by rfl) T.tuple_ boot_tuple (pa_cons (pe_lc (own := [("row", 1)]) (g := gName 1) rfl sc_numbers.nd (pi_tup (pe_fldK K (pv 0) rfl)) (blkOk_by (N := ["self", "row"]) (sc := defScope s_numbers) (by decide +kernel)) (fun _ _ _ _ _ => pg_name (i := 1) sc_numbers.nd rfl (Or.inl rfl)) (fun _ _ _ _ _ => pts_nil) (fun _ _ _ _ _ => (pe_ix (ix_tupK K) (pv 1) pe_int (fun _ _ => rfl)))) pa_nil)))), ?_⟩
    have e : (start ["self", "row"] [.ref p]) = [some (.ref p), none] := rfl
    rw [e]
    refine s_ret (W := deskW C p le lb m es) (F := F) (a := .dt (numsD m)) sf da ?_ fun F1 H1 x g _ hx => q F1 H1 x g hx
    have hc := pr_lcT (W := deskW C p le lb m es) (K := K) (σ := [some (.ref p), none]) (F := F) (H := H) (j := 1) (vs := [1]) (tt := tYes) (te' := tOp (rIxT K) (tVar 1) (tC (.int 0))) (fun _ => true) (item 0) (pr_rows (i := 0) T (fun _ _ z => z) rfl) (by rw [List.length_map]; exact hm) (fun _ => rfl)
      (fun d hd F1 H1 v g _ hv => prt_yes) (fun d hd F1 H1 v g _ hv _ => by
        obtain ⟨r, _, rfl⟩ := List.mem_map.mp hd
        exact pr_ixT (n := 0) rfl rfl (pr_dt rfl hv) pr_int)
    refine pr_tupleL (pr_to hc ?_)
    rw [List.filter_eq_self.mpr (fun _ _ => rfl), List.map_map, List.map_map]
    rfl

/-! ### bound -/
-- slots: 0 self
abbrev s_bound : Stmt := inClass (top 19) 11
theorem sc_bound : FnScope ["self"] ["self"] (defScope s_bound) := ⟨rfl, rfl, rfl, by decide +kernel, rfl, by decide +kernel, by decide +kernel⟩
theorem ok_bound (F : Dm K C "bound" "Desk.bound" s_bound) (T : Txt K w mg C dl) : Ml P w K mg base C CX0 1 "bound" (sp_rd C fun m => .int m.k) := by
  refine ml_of T.cl F sc_bound (fun vs H Q E h => ?_) (fun _ _ _ _ _ _ us hl => match us, hl with | [_], _ => rfl) fun f cdv A outer s H vs Q E hr h => ?_
  · obtain ⟨_, _, _, _, _, _, rfl, _⟩ := h
    rfl
  · obtain ⟨F, p, le, lb, m, es, rfl, sf, da, hm, q⟩ := h
    refine ⟨_, (pss_one (ps_ret (pe_fldK K (pv 0) rfl))), ?_⟩
    have e : (start ["self"] [.ref p]) = [some (.ref p)] := rfl
    rw [e]
    exact s_ret (W := deskW C p le lb m es) (F := F) (a := .dt (.int m.k)) sf da (pr_k T (fun _ _ z => z) rfl) fun F1 H1 x g _ hx => q F1 H1 x g hx

/-! ### can_mark -/
-- slots: 0 self, 1 name
abbrev s_can_mark : Stmt := inClass (top 19) 1
theorem sc_can_mark : FnScope ["self", "name"] ["self", "name"] (defScope s_can_mark) := ⟨rfl, rfl, rfl, by decide +kernel, rfl, by decide +kernel, by decide +kernel⟩
def sp_can_mark (C : Addr) : Sp := fun vs H Q _ => ∃ (F : Hp) (p le lb : Addr) (m : Md) (es : List PyData) (v : V) (d : PyData), vs = [.ref p, v] ∧ Same F H ∧ DeskAt C p le lb m es F H ∧ Dt F v d ∧ Short d ∧ ∀ F' H', Gw [] F H F' H' → Q (.bl (canMark m d)) H'
theorem sg_can_mark {W : Wd} {p le lb : Addr} {m : Md} {es : List PyData} {d : PyData} (hI : ∀ F H, W.I F H → DeskAt C p le lb m es F H) (hs : Short d) : Sg W (sp_can_mark C) [.raw (.ref p), .dt d] (.dt (.bool (canMark m d))) := fun F H vs sf i ha Q E q => by
  obtain ⟨v, r, rfl, rfl, x, r', rfl, hx, rfl⟩ := ha
  exact ⟨F, p, le, lb, m, es, x, d, rfl, sf, hI F H i, hx, hs, fun F' H' g => q F' H' _ g.pure (W.st _ _ _ _ g i) (.bl _)⟩
theorem ok_can_mark (F : Dm K C "can_mark" "Desk.can_mark" s_can_mark) (T : Txt K w mg C dl) (c_is_name : Cl P w K mg base CX0 1 "is_name" sp_is_name) : Ml P w K mg base C CX0 2 "can_mark" (sp_can_mark C) := by
  refine ml_of T.cl F sc_can_mark (fun vs H Q E h => ?_) (fun _ _ _ _ _ _ us hl => match us, hl with | [_, _], _ => rfl) fun f cdv A outer s H vs Q E hr h => ?_
  · obtain ⟨_, _, _, _, _, _, _, _, rfl, _⟩ := h
    rfl
  · obtain ⟨F, p, le, lb, m, es, v, d, rfl, sf, da, hv, hs, q⟩ := h
    refine ⟨_, (pss_one (ps_ret (pe_and (pe_cl c_is_name hr (by decide) rfl (pa_cons (pv 1) pa_nil)) (pe_and (pe_cmpR op_notIn_seq (pv 1) (pe_fldK K (pv 0) rfl) (by rfl)) (pe_one (pe_cmpR op_lt (pe_callB call_len_seq (by rfl) T.len_ PySem.boot_len (pa_cons (pe_fldK K (pv 0) rfl) pa_nil)) (pe_g T.gMOST_MARKS) (nomark _))))))), ?_⟩
    have e : (start ["self", "name"] [.ref p, v]) = [some (.ref p), some v] := rfl
    rw [e]
    refine s_ret (W := deskW C p le lb m es) (F := F) (a := .dt (.bool (canMark m d))) sf da ?_ fun F1 H1 x g _ hx => by cases hx; exact q F1 H1 g
    have hn : Pr (deskW C p le lb m es) (tCall sp_is_name [] E0 (tCons (tVar 1) tNil)) [some (.ref p), some v] F H (.dt (.bool (isName d))) := pr_call (sg_is_name hs) (pra_cons (pr_dt rfl hv) pra_nil)
    by_cases hstr : ∃ x, d = .str x
    · obtain ⟨x, rfl⟩ := hstr
      refine pr_to (pr_and hn fun _ => pr_and (pr_notInS (pr_dt rfl hv) (pr_marks T (fun _ _ z => z) rfl)) fun _ => pr_lt (pr_lenT (pr_marks T (fun _ _ z => z) rfl)) pr_int) ?_
      rw [List.length_map]
      show _ = PyData.bool (isNameS x && !decide (x ∈ m.marks) && decide (m.marks.length < 16))
      have e1 : decide (((m.marks.length : Nat) : Int) < 16) = decide (m.marks.length < 16) := decide_eq_decide.mpr (by omega)
      rw [e1, Bool.and_assoc]
      rfl
    · have hf : isName d = false := by
        cases d with
        | str x => exact absurd ⟨x, rfl⟩ hstr
        | _ => rfl
      have hf2 : canMark m d = false := by
        cases d with
        | str x => exact absurd ⟨x, rfl⟩ hstr
        | _ => rfl
      exact pr_to (pr_and (k := false) (l := false) (pr_to hn (by rw [hf])) fun z => nomatch z) (by rw [hf2]; rfl)
end
end K39
end

section
set_option Elab.async false
set_option linter.all false
set_option maxRecDepth 100000
set_option maxHeartbeats 4000000
namespace K39
open PySem PySem.Spec PyProof.Rows L2

section
variable {P : Program} {w : World} {K : PySem.W.Frag} {mg : Str → Option Value} {base : Heap} {C dl : Addr}

theorem not_name {d : PyData} (h : ¬ ∃ x, d = .str x) : isName d = false := by
  cases d with
  | str x => exact absurd ⟨x, rfl⟩ h
  | _ => rfl
theorem not_int {d : PyData} (h : ¬ ∃ x, d = .int x) : isInt d = false := by
  cases d with
  | int x => exact absurd ⟨x, rfl⟩ h
  | _ => rfl
theorem canRead_no {m : Md} {x y z : PyData} (h : isName x = false ∨ isName y = false ∨ isInt z = false) : canRead m x y z = false := by
  cases x with
  | str s =>
    cases y with
    | str t =>
      cases z with
      | int v =>
        show (isNameS s && isNameS t && _ && _ && _ && _ && _) = false
        rcases h with h | h | h
        · have h' : isNameS s = false := h
          simp [h']
        · have h' : isNameS t = false := h
          simp [h']
        · cases h
      | _ => rfl
    | _ => rfl
  | _ => rfl

/-! ### can_read -/
-- slots: 0 self, 1 start, 2 end, 3 value
abbrev s_can_read : Stmt := inClass (top 19) 2
theorem sc_can_read : FnScope ["self", "start", "end", "value"] ["self", "start", "end", "value"] (defScope s_can_read) := ⟨rfl, rfl, rfl, by decide +kernel, rfl, by decide +kernel, by decide +kernel⟩
def sp_can_read (C : Addr) : Sp := fun vs H Q _ => ∃ (F : Hp) (p le lb : Addr) (m : Md) (es : List PyData) (v v' v'' : V) (x y z : PyData), vs = [.ref p, v, v', v''] ∧ Same F H ∧ DeskAt C p le lb m es F H ∧ Dt F v x ∧ Dt F v' y ∧ Dt F v'' z ∧ Short x ∧ Short y ∧
  ∀ F' H', Gw [] F H F' H' → Q (.bl (canRead m x y z)) H'
theorem sg_can_read {W : Wd} {p le lb : Addr} {m : Md} {es : List PyData} {x y z : PyData} (hI : ∀ F H, W.I F H → DeskAt C p le lb m es F H) (hs : Short x) (hs' : Short y) : Sg W (sp_can_read C) [.raw (.ref p), .dt x, .dt y, .dt z] (.dt (.bool (canRead m x y z))) := fun F H vs sf i ha Q E q => by
  obtain ⟨v, r, rfl, rfl, v1, r', rfl, hx, v2, r'', rfl, hy, v3, r3, rfl, hz, rfl⟩ := ha
  exact ⟨F, p, le, lb, m, es, v1, v2, v3, x, y, z, rfl, sf, hI F H i, hx, hy, hz, hs, hs', fun F' H' g => q F' H' _ g.pure (W.st _ _ _ _ g i) (.bl _)⟩
theorem ok_can_read (F : Dm K C "can_read" "Desk.can_read" s_can_read) (T : Txt K w mg C dl) (c_is_name : Cl P w K mg base CX0 1 "is_name" sp_is_name) (c_is_integer : Cl P w K mg base CX0 1 "is_integer" sp_is_integer) : Ml P w K mg base C CX0 2 "can_read" (sp_can_read C) := by
  refine ml_of T.cl F sc_can_read (fun vs H Q E h => ?_) (fun _ _ _ _ _ _ us hl => match us, hl with | [_, _, _, _], _ => rfl) fun f cdv A outer s H vs Q E hr h => ?_
  · obtain ⟨_, _, _, _, _, _, _, _, _, _, _, _, rfl, _⟩ := h
    rfl
  · obtain ⟨F, p, le, lb, m, es, v1, v2, v3, x, y, z, rfl, sf, da, hx, hy, hz, hs, hs', q⟩ := h
    refine ⟨_, (pss_cons (ps_if (PW.pt (pw_or (pt_not (pt_val (pe_cl c_is_name hr (by decide) rfl (pa_cons (pv 1) pa_nil)))) (pw_or (pt_not (pt_val (pe_cl c_is_name hr (by decide) rfl (pa_cons (pv 2) pa_nil)))) (pw_or1 (pt_not (pt_val (pe_cl c_is_integer hr (by decide) rfl (pa_cons (pv 3) pa_nil)))))))) (pss_one (ps_ret pe_bl)) pss_nil) (pss_cons (ps_if (PW.pt (pw_or (pt_cmpR op_notIn_seq (pv 1) (pe_fldK K (pv 0) rfl) (by rfl)) (pw_or (pt_cmpR op_notIn_seq (pv 2) (pe_fldK K (pv 0) rfl) (by rfl)) (pw_or1 (pt_cmpR op_eq (pv 1) (pv 2) (nomark _)))))) (pss_one (ps_ret pe_bl)) pss_nil) (pss_one (ps_ret (pe_and (pe_cmpR op_le (pe_callB call_abs (by rfl) T.abs_ PyProof.Rows.boot_abs (pa_cons (pv 3) pa_nil)) (pe_g T.gMOST_VALUE) (nomark _)) (pe_one (pe_cmpR op_lt (pe_callB call_len_seq (by rfl) T.len_ PySem.boot_len (pa_cons (pe_fldK K (pv 0) rfl) pa_nil)) (pe_g T.gMOST_READINGS) (nomark _)))))))), ?_⟩
    have e : (start ["self", "start", "end", "value"] [.ref p, v1, v2, v3]) = [some (.ref p), some v1, some v2, some v3] := rfl
    rw [e]
    have ret0 : canRead m x y z = false → ∀ {D : Ends} {F1 H1 : Hp}, D.rt = Q → Gw [] F H F1 H1 → tRet (tC (.bl false)) D [some (.ref p), some v1, some v2, some v3] H1 := fun hn D F1 H1 hD g => by
      show D.rt (.bl false) H1
      rw [hD, ← hn]
      exact q F1 H1 g
    have n1 : Pr (deskW C p le lb m es) (tCall sp_is_name [] E0 (tCons (tVar 1) tNil)) [some (.ref p), some v1, some v2, some v3] F H (.dt (.bool (isName x))) := pr_call (sg_is_name hs) (pra_cons (pr_dt rfl hx) pra_nil)
    have n2 : Pr (deskW C p le lb m es) (tCall sp_is_name [] E0 (tCons (tVar 2) tNil)) [some (.ref p), some v1, some v2, some v3] F H (.dt (.bool (isName y))) := pr_call (sg_is_name hs') (pra_cons (pr_dt rfl hy) pra_nil)
    have n3 : Pr (deskW C p le lb m es) (tCall sp_is_integer [] E0 (tCons (tVar 3) tNil)) [some (.ref p), some v1, some v2, some v3] F H (.dt (.bool (isInt z))) := pr_call sg_is_integer (pra_cons (pr_dt rfl hz) pra_nil)
    refine q_when (W := deskW C p le lb m es) (F := F) (b := !isName x || (!isName y || !isInt z)) sf da (prt_or (prt_not (prt_B n1)) fun _ => prt_or (prt_not (prt_B n2)) fun _ => prt_not (prt_B n3)) (fun hb F1 H1 g1 _ => ret0 (canRead_no ?_) rfl g1) (fun hb F1 H1 g1 i1 => ?_)
    · simp only [Bool.or_eq_true, Bool.not_eq_true'] at hb
      exact hb
    · simp only [Bool.or_eq_false_iff, Bool.not_eq_false'] at hb
      obtain ⟨b1, b2, b3⟩ := hb
      obtain ⟨s, rfl⟩ : ∃ s, x = .str s := Classical.byContradiction fun c => by rw [not_name c] at b1; cases b1
      obtain ⟨t, rfl⟩ : ∃ s, y = .str s := Classical.byContradiction fun c => by rw [not_name c] at b2; cases b2
      obtain ⟨i, rfl⟩ : ∃ s, z = .int s := Classical.byContradiction fun c => by rw [not_int c] at b3; cases b3
      have hI : ∀ F H, (deskW C p le lb m es).I F H → DeskAt C p le lb m es F H := fun _ _ z => z
      refine q_when (W := deskW C p le lb m es) (F := F1) (b := !decide (s ∈ m.marks) || (!decide (t ∈ m.marks) || decide (s = t))) g1.fh i1 (prt_or (prt_test (pr_notInS (pr_dt rfl (hx.mono g1.ff)) (pr_marks T hI rfl))) fun _ => prt_or (prt_test (pr_notInS (pr_dt rfl (hy.mono g1.ff)) (pr_marks T hI rfl))) fun _ => prt_test (pr_eqS (pr_dt rfl (hx.mono g1.ff)) (pr_dt rfl (hy.mono g1.ff)))) (fun hb F2 H2 g2 _ => ret0 ?_ rfl (g1.trans g2)) (fun hb F2 H2 g2 i2 => ?_)
      · show (isNameS s && isNameS t && decide (s ∈ m.marks) && decide (t ∈ m.marks) && !decide (s = t) && _ && _) = false
        simp only [Bool.or_eq_true, Bool.not_eq_true'] at hb
        rcases hb with h | h | h
        · simp [h]
        · simp [h]
        · simp [h]
      · refine s_ret (W := deskW C p le lb m es) (F := F2) (a := .dt (.bool (canRead m (.str s) (.str t) (.int i)))) g2.fh i2 ?_ ?_
        rotate_left
        · intro F3 H3 y g3 _ hy
          cases hy
          exact q F3 H3 ((g1.trans g2).trans g3)
        · refine pr_to (pr_and (pr_le (pr_abs (pr_dt rfl ((hz.mono g1.ff).mono g2.ff))) pr_int) fun _ => pr_lt (pr_lenT (pr_rows T hI rfl)) pr_int) ?_
          have e0 : canRead m (.str s) (.str t) (.int i) = (isNameS s && isNameS t && decide (s ∈ m.marks) && decide (t ∈ m.marks) && !decide (s = t) && decide (-1000000 ≤ i ∧ i ≤ 1000000) && decide (m.rows.length < 80)) := rfl
          simp only [Bool.or_eq_false_iff, Bool.not_eq_false'] at hb
          obtain ⟨h1, h2, h3⟩ := hb
          have b1' : isNameS s = true := b1
          have b2' : isNameS t = true := b2
          rw [e0, b1', b2', h1, h2, h3, List.length_map]
          have e1 : decide ((if i < 0 then -i else i) ≤ 1000000) = decide (-1000000 ≤ i ∧ i ≤ 1000000) := decide_eq_decide.mpr (by split <;> omega)
          have e2 : decide (((m.rows.length : Nat) : Int) < 80) = decide (m.rows.length < 80) := decide_eq_decide.mpr (by omega)
          rw [e1, e2]
          rfl

/-! ### can_do -/
-- slots: 0 self, 1 deed
abbrev s_can_do : Stmt := inClass (top 19) 3
theorem sc_can_do : FnScope ["self", "deed"] ["self", "deed"] (defScope s_can_do) := ⟨rfl, rfl, rfl, by decide +kernel, rfl, by decide +kernel, by decide +kernel⟩
/-- what may be handed to a desk -/
structure DOk (d : PyData) : Prop where
  kind : KOk d
  short : ∀ k r, d = .tuple (k :: r) → ∀ x ∈ r, Short x
theorem pick_none {m : Md} {d : PyData} (h : isShaped d = false) (c : Nat) : canDo m c d = false := no_shape h
def sp_can_do (C : Addr) : Sp := fun vs H Q _ => ∃ (F : Hp) (p le lb : Addr) (m : Md) (es : List PyData) (v : V) (d : PyData), vs = [.ref p, v] ∧ Same F H ∧ DeskAt C p le lb m es F H ∧ m.rows.length ≤ 10000 ∧ Dt F v d ∧ DOk d ∧ ∀ F' H', Gw [] F H F' H' → Q (.bl (canDo m es.length d)) H'
theorem sg_can_do {W : Wd} {p le lb : Addr} {m : Md} {es : List PyData} {d : PyData} (hI : ∀ F H, W.I F H → DeskAt C p le lb m es F H) (hm : m.rows.length ≤ 10000) (hd : DOk d) : Sg W (sp_can_do C) [.raw (.ref p), .dt d] (.dt (.bool (canDo m es.length d))) := fun F H vs sf i ha Q E q => by
  obtain ⟨v, r, rfl, rfl, x, r', rfl, hx, rfl⟩ := ha
  exact ⟨F, p, le, lb, m, es, x, d, rfl, sf, hI F H i, hm, hx, hd, fun F' H' g => q F' H' _ g.pure (W.st _ _ _ _ g i) (.bl _)⟩
theorem any_num (m : Md) (n : Int) : m.rows.any (fun r => decide ((r.n : Int) = n)) = decide (n ∈ m.rows.map fun r => (r.n : Int)) := by
  induction m.rows with
  | nil => simp
  | cons r l ih =>
    rw [List.any_cons, ih, List.map_cons]
    by_cases h : (r.n : Int) = n
    · simp [h]
    · have h' : ¬ n = (r.n : Int) := fun z => h z.symm
      simp [h, h']
theorem ok_can_do (F : Dm K C "can_do" "Desk.can_do" s_can_do) (T : Txt K w mg C dl) (c_is_shaped : Cl P w K mg base CX0 1 "is_shaped" sp_is_shaped) (c_is_integer : Cl P w K mg base CX0 1 "is_integer" sp_is_integer)
    (c_can_mark : Ml P w K mg base C CX0 2 "can_mark" (sp_can_mark C)) (c_can_read : Ml P w K mg base C CX0 2 "can_read" (sp_can_read C)) (c_numbers : Ml P w K mg base C CX0 1 "numbers" (sp_rd C numsD)) : Ml P w K mg base C CX0 3 "can_do" (sp_can_do C) := by
  refine ml_of T.cl F sc_can_do (fun vs H Q E h => ?_) (fun _ _ _ _ _ _ us hl => match us, hl with | [_, _], _ => rfl) fun f cdv A outer s H vs Q E hr h => ?_
  · obtain ⟨_, _, _, _, _, _, _, _, rfl, _⟩ := h
    rfl
  · obtain ⟨F, p, le, lb, m, es, v, d, rfl, sf, da, hm, hv, hd, q⟩ := h
    refine ⟨_, (pss_cons (ps_if (PW.pt (pw_or (pt_not (pt_val (pe_cl c_is_shaped hr (by decide) rfl (pa_cons (pv 1) pa_nil)))) (pw_or1 (pt_cmpR op_ge (pe_callB call_len_seq (by rfl) T.len_ PySem.boot_len (pa_cons (pe_fldK K (pv 0) rfl) pa_nil)) (pe_g T.gMOST_ENTRIES) (nomark _))))) (pss_one (ps_ret pe_bl)) pss_nil) (pss_cons (ps_if (pt_cmpR op_eq (pe_ix (ix_tupK K) (pv 1) pe_int (fun _ _ => rfl)) pe_str (nomark _)) (pss_one (ps_ret (pe_ml c_can_mark hr (by decide) (pv 0) (pa_cons (pe_ix (ix_tupK K) (pv 1) pe_int (fun _ _ => rfl)) pa_nil)))) pss_nil) (pss_cons (ps_if (pt_cmpR op_eq (pe_ix (ix_tupK K) (pv 1) pe_int (fun _ _ => rfl)) pe_str (nomark _)) (pss_one (ps_ret (pe_ml c_can_read hr (by decide) (pv 0) (pa_cons (pe_ix (ix_tupK K) (pv 1) pe_int (fun _ _ => rfl)) (pa_cons (pe_ix (ix_tupK K) (pv 1) pe_int (fun _ _ => rfl)) (pa_cons (pe_ix (ix_tupK K) (pv 1) pe_int (fun _ _ => rfl)) pa_nil)))))) pss_nil) (pss_cons (ps_if (pt_cmpR op_eq (pe_ix (ix_tupK K) (pv 1) pe_int (fun _ _ => rfl)) pe_str (nomark _)) (pss_one (ps_ret (pe_and (pe_cl c_is_integer hr (by decide) rfl (pa_cons (pe_ix (ix_tupK K) (pv 1) pe_int (fun _ _ => rfl)) pa_nil)) (pe_one (pe_cmpR op_in_seq (pe_ix (ix_tupK K) (pv 1) pe_int (fun _ _ => rfl)) (pe_ml0 c_numbers hr (by decide) (pv 0)) (by rfl)))))) pss_nil) (pss_one (ps_ret (pe_and (pe_cl c_is_integer hr (by decide) rfl (pa_cons (pe_ix (ix_tupK K) (pv 1) pe_int (fun _ _ => rfl)) pa_nil)) (pe_one (pe_chain op_le op_le pe_int (pe_ix (ix_tupK K) (pv 1) pe_int (fun _ _ => rfl)) (pe_g T.gMOST_BOUND)))))))))), ?_⟩
    have e : (start ["self", "deed"] [.ref p, v]) = [some (.ref p), some v] := rfl
    rw [e]
    have hI : ∀ F H, (deskW C p le lb m es).I F H → DeskAt C p le lb m es F H := fun _ _ z => z
    have hp : ∀ (mm : Str), (∀ {pm pr : Addr} {a b : Int}, (fsD pm pr a b le lb).lookup mm = none) → ∀ F H, (deskW C p le lb m es).I F H → ∃ dx fs, H p = some (.ins C dx fs) ∧ fs.lookup mm = none := fun mm hmm F H i => by
      obtain ⟨dx, pm, pr, e1, _⟩ := (hI F H i).ins
      exact ⟨dx, _, e1, hmm⟩
    have ret0 : canDo m es.length d = false → ∀ {D : Ends} {F1 H1 : Hp}, D.rt = Q → Gw [] F H F1 H1 → tRet (tC (.bl false)) D [some (.ref p), some v] H1 := fun hn D F1 H1 hD g => by
      show D.rt (.bl false) H1
      rw [hD, ← hn]
      exact q F1 H1 g
    refine q_when (W := deskW C p le lb m es) (F := F) (b := !isShaped d || decide ((1000 : Int) ≤ (es.length : Int))) sf da (prt_or (prt_not (prt_B (pr_call (sg_is_shaped hd.kind) (pra_cons (pr_dt rfl hv) pra_nil)))) fun _ => prt_test (pr_ge (pr_lenE T hI rfl) pr_int)) (fun hb F1 H1 g1 _ => ret0 ?_ rfl g1) (fun hb F1 H1 g1 i1 => ?_)
    · simp only [Bool.or_eq_true, Bool.not_eq_true', decide_eq_true_eq] at hb
      unfold canDo
      rcases hb with h | h
      · rw [h]; rfl
      · have h' : decide (es.length < 1000) = false := decide_eq_false (by omega)
        rw [h', Bool.and_false]; rfl
    · simp only [Bool.or_eq_false_iff, Bool.not_eq_false', decide_eq_false_iff_not] at hb
      obtain ⟨b1, b2⟩ := hb
      have ec : canDo m es.length d = canKind m d := by
        unfold canDo
        rw [b1, decide_eq_true (show es.length < 1000 by omega)]
        rfl
      have it0 : ∀ {F1 H1 : Hp} {k : Str} {r : List PyData}, d = .tuple (.str k :: r) → Gw [] F H F1 H1 → Pr (deskW C p le lb m es) (tOp (rIxT K) (tVar 1) (tC (.int 0))) [some (.ref p), some v] F1 H1 (.dt (.str k)) := fun e g => by
        subst e
        exact pr_ixT (n := 0) rfl rfl (pr_dt rfl (hv.mono g.ff)) pr_int
      have it1 : ∀ {F1 H1 : Hp} {k x : PyData} {r : List PyData}, d = .tuple (k :: x :: r) → Gw [] F H F1 H1 → Pr (deskW C p le lb m es) (tOp (rIxT K) (tVar 1) (tC (.int 1))) [some (.ref p), some v] F1 H1 (.dt x) := fun e g => by
        subst e
        exact pr_ixT (n := 1) rfl rfl (pr_dt rfl (hv.mono g.ff)) pr_int
      have it2 : ∀ {F1 H1 : Hp} {k x y : PyData} {r : List PyData}, d = .tuple (k :: x :: y :: r) → Gw [] F H F1 H1 → Pr (deskW C p le lb m es) (tOp (rIxT K) (tVar 1) (tC (.int 2))) [some (.ref p), some v] F1 H1 (.dt y) := fun e g => by
        subst e
        exact pr_ixT (n := 2) rfl rfl (pr_dt rfl (hv.mono g.ff)) pr_int
      have it3 : ∀ {F1 H1 : Hp} {k x y z : PyData} {r : List PyData}, d = .tuple (k :: x :: y :: z :: r) → Gw [] F H F1 H1 → Pr (deskW C p le lb m es) (tOp (rIxT K) (tVar 1) (tC (.int 3))) [some (.ref p), some v] F1 H1 (.dt z) := fun e g => by
        subst e
        exact pr_ixT (n := 3) rfl rfl (pr_dt rfl (hv.mono g.ff)) pr_int
      have fin : ∀ {te : TE} {F3 H3 : Hp} {D : Ends}, D.rt = Q → Gw [] F H F3 H3 → (deskW C p le lb m es).I F3 H3 → Pr (deskW C p le lb m es) te [some (.ref p), some v] F3 H3 (.dt (.bool (canKind m d))) → tRet te D [some (.ref p), some v] H3 := fun {te F3 H3 D} hD g3 i3 h => by
        refine s_ret (W := deskW C p le lb m es) (F := F3) (a := .dt (.bool (canKind m d))) g3.fh i3 h ?_
        intro F4 H4 y g4 _ hy
        cases hy
        rw [hD, ← ec]
        exact q F4 H4 (g3.trans g4)
      obtain ⟨k, r, hkr⟩ : ∃ k r, d = .tuple (.str k :: r) := by
        cases shp_of b1 <;> exact ⟨_, _, rfl⟩
      refine q_when (W := deskW C p le lb m es) (F := F1) (b := decide (k = "mark")) g1.fh i1 (prt_test (pr_eqS (it0 hkr g1) pr_str)) (fun hb F2 H2 g2 i2 => ?_) (fun hb F2 H2 g2 i2 => ?_)
      · have hk := of_decide_eq_true hb
        cases shp_of b1 with
        | mark x =>
          refine fin rfl (g1.trans g2) i2 ?_
          rw [kind_mark]
          exact pr_meth (sg_can_mark hI (hd.short _ _ rfl _ (by simp))) (pr_var rfl) (hp "can_mark" lk_can_mark) (pra_cons (it1 rfl (g1.trans g2)) pra_nil)
        | read x y z => cases hkr; exact absurd hk n_rm
        | drop x => cases hkr; exact absurd hk n_dm
        | bound x => cases hkr; exact absurd hk n_bm
      · have hk := of_decide_eq_false hb
        have g12 := g1.trans g2
        refine q_when (W := deskW C p le lb m es) (F := F2) (b := decide (k = "read")) g2.fh i2 (prt_test (pr_eqS (it0 hkr g12) pr_str)) (fun hb F3 H3 g3 i3 => ?_) (fun hb F3 H3 g3 i3 => ?_)
        · have hk2 := of_decide_eq_true hb
          cases shp_of b1 with
          | mark x => cases hkr; exact absurd rfl hk
          | read x y z =>
            refine fin rfl (g12.trans g3) i3 ?_
            rw [kind_read]
            exact pr_meth (sg_can_read hI (hd.short _ _ rfl _ (by simp)) (hd.short _ _ rfl _ (by simp))) (pr_var rfl) (hp "can_read" lk_can_read) (pra_cons (it1 rfl (g12.trans g3)) (pra_cons (it2 rfl (g12.trans g3)) (pra_cons (it3 rfl (g12.trans g3)) pra_nil)))
          | drop x => cases hkr; exact absurd hk2 n_dr
          | bound x => cases hkr; exact absurd hk2 n_br
        · have hk2 := of_decide_eq_false hb
          have g13 := g12.trans g3
          refine q_when (W := deskW C p le lb m es) (F := F3) (b := decide (k = "drop")) g3.fh i3 (prt_test (pr_eqS (it0 hkr g13) pr_str)) (fun hb F4 H4 g4 i4 => ?_) (fun hb F4 H4 g4 i4 => ?_)
          · have hk3 := of_decide_eq_true hb
            cases shp_of b1 with
            | mark x => cases hkr; exact absurd rfl hk
            | read x y z => cases hkr; exact absurd rfl hk2
            | drop x =>
              refine fin rfl (g13.trans g4) i4 ?_
              rw [kind_drop]
              have hi : Pr (deskW C p le lb m es) (tCall sp_is_integer [] E0 (tCons (tOp (rIxT K) (tVar 1) (tC (.int 1))) tNil)) [some (.ref p), some v] F4 H4 (.dt (.bool (isInt x))) := pr_call sg_is_integer (pra_cons (it1 rfl (g13.trans g4)) pra_nil)
              by_cases hx : ∃ i, x = .int i
              · obtain ⟨i, rfl⟩ := hx
                refine pr_to (pr_and hi fun _ => pr_inI (it1 rfl (g13.trans g4)) (pr_meth (sg_rd (f := numsD) hI hm) (pr_var rfl) (hp "numbers" lk_numbers) pra_nil)) ?_
                show PyData.bool (true && decide (i ∈ m.rows.map fun r => (r.n : Int))) = PyData.bool (m.rows.any fun r => decide ((r.n : Int) = i))
                rw [any_num, Bool.true_and]
              · have hf : canDrop m x = false := by
                  cases x with
                  | int i => exact absurd ⟨i, rfl⟩ hx
                  | _ => rfl
                exact pr_to (pr_and (k := false) (l := false) (pr_to hi (by rw [not_int hx])) fun z => nomatch z) (by rw [hf]; rfl)
            | bound x => cases hkr; exact absurd hk3 n_bd
          · have hk3 := of_decide_eq_false hb
            cases shp_of b1 with
            | mark x => cases hkr; exact absurd rfl hk
            | read x y z => cases hkr; exact absurd rfl hk2
            | drop x => cases hkr; exact absurd rfl hk3
            | bound x =>
              refine fin rfl (g13.trans g4) i4 ?_
              rw [kind_bound]
              have hi : Pr (deskW C p le lb m es) (tCall sp_is_integer [] E0 (tCons (tOp (rIxT K) (tVar 1) (tC (.int 1))) tNil)) [some (.ref p), some v] F4 H4 (.dt (.bool (isInt x))) := pr_call sg_is_integer (pra_cons (it1 rfl (g13.trans g4)) pra_nil)
              by_cases hx : ∃ i, x = .int i
              · obtain ⟨i, rfl⟩ := hx
                exact pr_to (pr_and hi fun _ => pr_chain pr_int (it1 rfl (g13.trans g4)) pr_int) rfl
              · have hf : canBound x = false := by
                  cases x with
                  | int i => exact absurd ⟨i, rfl⟩ hx
                  | _ => rfl
                exact pr_to (pr_and (k := false) (l := false) (pr_to hi (by rw [not_int hx])) fun z => nomatch z) (by rw [hf]; rfl)
end
end K39
end

section
set_option Elab.async false
set_option linter.all false
set_option maxRecDepth 100000
set_option maxHeartbeats 4000000
/-! BadEntry: its __init__ says super().__init__("bad entry"); self.place = place. -/
namespace K39
namespace BE
open PySem PySem.W PySem.Calls PyProof.Rows PySem.HandSPX
/-- its __init__, by its place in the text -/
abbrev s_be : Stmt := L2.inClass (top 4) 0
abbrev iA : Arguments := L2.defArgs s_be
abbrev iB : List Stmt := L2.defBody s_be
abbrev iS : Scope := L2.defScope s_be
/-- what the written part says of BadEntry, at C, and of its __init__, at fI -/
structure BeTxt (P : Program) (K : Frag) (mg : Str → Option Value) (C fI : Addr) : Prop where
  gC : mg "BadEntry" = some (.ref C)
  cls : ∃ nm q N bs bm sn sub ab col dd k0 k1 k2 k3 k5, K.lookup C = some (excClassObj nm q C N bs bm true sn sub ab col dd k0 k1 k2 k3 k5 "ValueError.__new__") ∧ refsVE bm = true ∧ alongIn K "__init__" bm = some (some (.builtin "ValueError.__init__"))
  sa : findIn K (.ref C) "__setattr__" = some (some (.builtin "object.__setattr__"))
  ga : findIn K (.ref C) "__getattribute__" = some (some (.builtin "BaseException.__getattribute__"))
  gg : findIn K (.ref C) "__getattr__" = some none
  noN : findIn K (.ref C) "place" = some none
  iC : findIn K (.ref C) "__init__" = some (some (.ref fI))
  tC : typeIn K (.ref fI) = some (.type "function")
  kC : keepIn K (.ref C) = true
  exC : subIn K (.ref C) (.type "BaseException") = some true
  veC : subIn K (.ref C) (.type "ValueError") = some true
  meC : mroIn K C (.ref C) = some true
  tyC : typeIn K (.ref C) = some (.type "type")
  hdC : hasDictIn K C = true
  sup : mg "super" = none
  opq : nsIn K cStatics "thirdparty.any" = some none
  ptop : (P.main.scope.names.lookup ("super" : Str)).isSome = false
  fn : ∃ (oc : Value) (od : Option Addr) (doc pm : Value) (an : Option Addr) (ct : Value) (osl : Array (Option Value)) (cda cc : Addr),
    K.lookup fI = some ⟨oc, od, .func (ksFn "__init__" "BadEntry.__init__" iA iB iS .none .none doc pm an (.ref cda) ct cc), osl⟩ ∧ codeIn K (.ref cda) "BadEntry.__init__" = true ∧
    (∃ cl cld csl, K.lookup cc = some ⟨cl, cld, .cell (some (.ref C)), csl⟩) ∧ ∃ ccl cdd vs ccs file tf, K.lookup cda = some ⟨ccl, cdd, .fields vs, ccs⟩ ∧ vs[2]? = some (.str file tf) ∧ ((P.main.file : Str) == file) = true
theorem args_str {M : Model} {A : Around} {E : Value → Shared → Prop} {s : Shared} {u : Addr} {cp pos : Pos} {env : Env} {m : Str} {k : Nat} {Q : Args → Shared → Prop} (h : Q ⟨[.str m s.toks], []⟩ { s with toks := s.toks + 1 }) :
    wpAny M A (evalArgs (.ref u) true (backTo cp (starEach [.Constant (.str m) k pos] env)) []) Q E s := by
  show wpAny _ _ (evalArgs _ true ((false, eval (.Constant (.str m) k pos) env) :: []) []) _ _ _
  exact evalArgs_plain (Calls.spliced_cons (Calls.Constant_str (Calls.spliced_nil h)))
theorem one_size (v : Value) : [v].length ≤ sizeLine := by
  rw [sizeLine_eq]
  exact (by decide : 1 ≤ 16777216)
theorem ldC {M : Model} {s : Shared} {env : Env} {m : Str → Option Value} {x : Str} {pos : Pos} {v : Value} {Q : Value → Shared → Prop} {A : Around} {E : Value → Shared → Prop} (hn : s.heap.Ns env.locals m) (hv : m x = some v) (h : Q v s)
    (hk : env.scope.kind = .function := by rfl) (hl : env.kindOf x = some .local := by rfl) (hd : (x == ("__debug__" : Str)) = false := by decide) :
    wpAny M A (eval (.Name x pos) env) Q E s := wpAny_Name (wpAny_loadName_local hk hl hn hv h) hd
/-- what __init__ leaves of a fresh exception at x -/
structure InitEnd (h h' : Heap) (x C dx t1 : Addr) (v : Value) : Prop where
  keep : ∀ b o, b ≠ x → h.get? b = some o → h'.get? b = some o
  obj : h'.get? x = some { cls := .ref C, dict := some dx, data := .fields #[.ref t1, .none, .none, .none, .bool false, .none] }
  dbig : h.objs.size ≤ dx
  dne : dx ≠ x
  ns : h'.Ns1 dx (fun y => if y = "place" then some v else none)
section
variable {prog : Program} {w : World} {A : Around}
variable {E : Value → Shared → Prop} {h : Heap}
variable {g : Array GenState} {d : Drawn} {t : Nat} {os : OsState}
variable {C N : Addr} {nm q : Str} {bm bs sub : List Value} {hdct ab : Bool} {sn : List Str}
variable {col : Option Bool} {dd : Option Addr} {k0 k1 k2 k3 k5 : Option Value}
/-- the bound __init__ called: the args are laid anew -/
theorem call_mw {u e t0 : Addr} {rest : List Value} {Q : Value → Shared → Prop}
    (hC : h.get? C = some (excClassObj nm q C N bs bm hdct sn sub ab col dd k0 k1 k2 k3 k5 "ValueError.__new__")) (he : h.get? e = some (excO C t0)) (hu : h.get? u = some (kxs_mw "ValueError.__init__" e)) (hrest : rest.length ≤ sizeLine)
    (hq : ∀ h' t1, (∀ b o, b ≠ e → h.get? b = some o → h'.get? b = some o) → h'.get? e = some (excO C t1) → Q .none ⟨h', g, d, t, os⟩) :
    wpAny (model prog w) A (call (.ref u) rest) Q E
      ⟨h, g, d, t, os⟩ := by
  have c1 : (Value.type "method-wrapper" == Value.type "method" || Value.type "method-wrapper" == Value.type "builtin_function_or_method" || Value.type "method-wrapper" == Value.type "method-wrapper") = true := by decide
  refine wpAny_call (codeAny_of_tree ?_); show wpAny _ A.in1 (callAny (.ref u) ⟨rest, []⟩) _ _ _
  simp only [callAny]; refine wpAny_bind (wpAny_load hu ?_)
  simp only [kxs_mw, c1, if_true]
  refine KFB.if_so (by decide) (wpAny_bind (ESX.check_bound F.excBase_ValueError hC he rfl (wpAny_bind (wpAny_pure (wpAny_pure ⟨Code.quiet_builtin _ (by decide +kernel), codeAny_builtin F.excBase_ValueError.initEntry ?_⟩)))))
  rw [Around.under_plainId F.excBase_ValueError.init.plain _]; wp_walk
  refine hq _ h.objs.size (fun b o hb ho => (Heap.get?_update_other _ _ (Ne.symm hb)).trans (Heap.get?_push_of_some _ ho)) ?_
  exact (Heap.get?_update_self _ (Heap.get?_push_of_some _ he) rfl).trans rfl
end
section
variable {prog : Program} {w : World} {A : Around} {E : Value → Shared → Prop} {R : Result → Shared → Prop} {K : Frag} {mg : Str → Option Value} {C fI : Addr}
theorem be_init {s : Shared} (T : BeTxt prog K mg C fI) {x t0 : Addr} {v : Value} (X : K.In s.heap) (hlim : s.heap.NoLimit) (hG : s.heap.Ns mainGlobals mg) (hB : ∃ mb, s.heap.Ns builtinsNs mb ∧ mb "super" = some (.type "super"))
    (hx : s.heap.get? x = some (excO C t0)) (hnx : K.lookup x = none) (hroom : A.depth < recursionLimit)
    (hq : ∀ h' tk dx t1, InitEnd s.heap h' x C dx t1 v → R (.ok (.ret .none)) { s with heap := h', toks := tk }) :
    codeAny (model prog w) A (.call (.ref fI) ⟨[.ref x, v], []⟩) R s := by
  obtain ⟨oc, od, doc, pm, an, ct, osl, cda, cc, ho, hcd, ⟨cl, cld, csl, hcell⟩, ccl, cdd, vs, ccs, file, tf, hcode, hvs, hfile⟩ := T.fn
  obtain ⟨nm, q, N, bs, bm, sn, sub, ab, col, dd, k0, k1, k2, k3, k5, hC, hbm, hal⟩ := T.cls
  obtain ⟨mb, hb1, hb2⟩ := hB
  have hcl : clsIn K C = some { name := nm, bases := bs, mro := .ref C :: bm, ns := N, qualname := q, hasDict := true, slotNames := sn, subclasses := sub, abstract := ab, collection := col, hasDel := false } := by unfold clsIn; rw [hC] <;> rfl
  obtain ⟨hh, g, d, t, os⟩ := s
  have hxC : x ≠ C := fun z => by
    rw [z, hC] at hnx
    cases hnx
  refine ks_codeAny_call_defAt (fd := ksFn "__init__" "BadEntry.__init__" iA iB iS .none .none doc pm an (.ref cda) ct cc) (body := iB) (binds := [("self", .ref x), ("place", v)])
    hroom (X _ _ ho) rfl hlim (codeRec_of X hcd) rfl (BindsTo.of_eq (by first | rfl | with_unfolding_all rfl)) (show ∀ y ∈ iS.names, y.2 ≠ .cell by decide +kernel) (fun y hy => ?_) (fun h₁ hns hk₁ => ?_)
  · have hy' : y = (("self" : Str), Value.ref x) ∨ y = (("place" : Str), v) := by simpa using hy
    rcases hy' with rfl | rfl
    · exact (by decide +kernel : iS.names.lookup ("self" : Str) = some NameKind.local)
    · exact (by decide +kernel : iS.names.lookup ("place" : Str) = some NameKind.local)
  have X₁ : K.In h₁ := X.keeps hk₁
  have hx₁ := hk₁ _ _ hx
  have hC₁ := X₁ _ _ hC
  have I₁ : InstAt h₁ x (excO C t0) C none := ⟨hx₁, rfl, rfl, trivial⟩
  refine ks_wpAt_execs_cons (ks_wpAt_Expr_any (ks_wpAt_MethodCall ?_))
  refine ks_wpAt_super_base (by rfl) (by rfl) (by decide) rfl (X₁ _ _ ho) rfl rfl rfl (X₁ _ _ hcode) rfl hvs hfile T.ptop ?_
  refine ks_loadName_global rfl (by rfl) (loadGlobal_builtin (hG.keeps hk₁) T.sup (hb1.keeps hk₁) hb2 ⟨rfl, ?_⟩)
  refine wpAny_loadName_free rfl (by rfl) rfl ⟨_, X₁ _ _ hcell, rfl⟩ ?_
  refine wpAny_loadName_local (v := .ref x) rfl (by rfl) hns (by first | rfl | with_unfolding_all rfl | kernel_rfl) ?_
  refine ks_wpAny_isType_cls hC₁ rfl ⟨rfl, ?_⟩
  refine ks_wpAny_call_super hC₁ rfl hx₁ rfl (fun c e => by cases e) (looks_mroIn X₁ T.meC) (fun h₂ e₂ k₂ => ?_)
  have X₂ : K.In h₂ := X₁.keeps k₂
  have hx₂ := k₂ _ _ hx₁
  have I₂ : InstAt h₂ x (excO C t0) C none := ⟨hx₂, rfl, rfl, trivial⟩
  refine kxs_getMethod (K := K) (l := bm) kxs_ValueError e₂ (looks_opaque X₂ T.opq) (l₀ := .ref C :: bm) ((looks_clsIn X₂ hcl).andThen .now) (ESX.drop_own C bm) X₂ hal (I₂.type.andThen (looks_subIn X₂ T.veC)) hxC (by decide) ?_
  refine kxs_callWith (i := "ValueError.__init__") (x := x) (by rfl) ?_
  have e₃ : (h₂.push (kxs_mw "ValueError.__init__" x)).get? h₂.objs.size = some (kxs_mw "ValueError.__init__" x) := Heap.get?_push_at rfl rfl
  have X₃ : K.In (h₂.push (kxs_mw "ValueError.__init__" x)) := X₂.keeps fun b o e => Heap.get?_push_of_some _ e
  have hx₃ : (h₂.push (kxs_mw "ValueError.__init__" x)).get? x = some (excO C t0) := Heap.get?_push_of_some _ hx₂
  refine args_str ⟨e₃, ?_⟩
  refine call_mw (X₃ _ _ hC) hx₃ e₃ (one_size _) fun h₄ t1 k₄ hx₄ => ?_
  show PySem.wpAt _ _ _ (execs _ _) _ _ _
  have kk : ∀ b o, b ≠ x → hh.get? b = some o → h₄.get? b = some o := fun b o hb e => k₄ b o hb (Heap.get?_push_of_some _ (k₂ _ _ (hk₁ _ _ e)))
  have X₄ : K.In h₄ := fun a o e => kk a o (fun z => by rw [z, hnx] at e; cases e) (X _ _ e)
  have hns4 : h₄.Ns hh.objs.size fun y => List.lookup y [(("self" : Str), Value.ref x), ("place", v)].reverse := by
    obtain ⟨oL, es, ep, hL, r⟩ := hns
    exact ⟨oL, es, ep, k₄ _ _ (Nat.ne_of_gt (Heap.lt_size hx)) (Heap.get?_push_of_some _ (k₂ _ _ hL)), r⟩
  refine wpAt_of_wpAny ?_
  refine wpAny_execs_cons (plainObj_wpAny_Assign_Attribute ?_)
  refine ldC (v := v) hns4 (by first | rfl | with_unfolding_all rfl | kernel_rfl) (ldC (v := .ref x) hns4 (by first | rfl | with_unfolding_all rfl | kernel_rfl) ?_)
  refine set_plain X₄ (ox := excO C t1) (od := none) ⟨hx₄, rfl, rfl, trivial⟩ T.sa ?_
  refine exc_osa X₄ hx₄ hcl (show refsVE (.ref C :: bm) = true from hbm) rfl T.noN (fun h₅ tk₅ dx k₅ dn dne hx₅ hn₅ => ?_)
  show wpAny _ _ (execs _ _) _ _ _
  refine wpAny_execs_nil (hq h₅ tk₅ dx t1 ⟨fun b o hb e => k₅ b o hb (kk b o hb e), hx₅, ?_, dne, hn₅⟩)
  exact Nat.le_of_lt (Nat.lt_of_lt_of_le hns4.lt dn)
/-- a made BadEntry -/
structure OwnMade (h h' : Heap) (e C d : Addr) (v : Value) : Prop where
  keep : ∀ b o, h.get? b = some o → h'.get? b = some o
  new : h.objs.size ≤ e
  obj : ∃ oe vs, h'.get? e = some oe ∧ oe.cls = .ref C ∧ oe.dict = some d ∧ oe.data = .fields vs ∧ vs[1]? = some .none
  dbig : h.objs.size ≤ d
  dne : d ≠ e
  ns : h'.Ns1 d (fun y => if y = "place" then some v else none)
theorem be_made {s : Shared} (T : BeTxt prog K mg C fI) {v : Value} (X : K.In s.heap) (hlim : s.heap.NoLimit) (hG : s.heap.Ns mainGlobals mg) (hB : ∃ mb, s.heap.Ns builtinsNs mb ∧ mb "super" = some (.type "super")) (hroom : A.depth + 1 < recursionLimit)
    (hq : ∀ h' tk e d, OwnMade s.heap h' e C d v → R (.ok (.ret (.ref e))) { s with heap := h', toks := tk }) :
    codeAny (model prog w) A (.call (.ref C) ⟨[v], []⟩) R s := by
  obtain ⟨nm, q, N, bs, bm, sn, sub, ab, col, dd, k0, k1, k2, k3, k5, hC, hbm, hal⟩ := T.cls
  obtain ⟨mb, hb1, hb2⟩ := hB
  obtain ⟨hp, g, dr, tk, os⟩ := s
  have k : ∀ b o, hp.get? b = some o → ((hp.push (kdv_tup [v])).push (excO C hp.objs.size)).get? b = some o := fun b o e => Heap.get?_push_of_some _ (Heap.get?_push_of_some _ e)
  have hget : ((hp.push (kdv_tup [v])).push (excO C hp.objs.size)).get? (hp.objs.size + 1) = some (excO C hp.objs.size) := by heap_get
  have hnx : K.lookup (hp.objs.size + 1) = none := by
    cases e : K.lookup (hp.objs.size + 1) with
    | none => rfl
    | some o =>
      have z : hp.get? (hp.objs.size + 1) = some o := X _ _ e
      exact absurd (Nat.lt_of_succ_lt (Heap.lt_size z)) (Nat.lt_irrefl _)
  refine call_own F.excBase_ValueError (fun X => refsVE_contains X bm hbm) (X _ _ hC) (looks_findIn X T.iC) (fun self => bind_fn X self T.tC) (one_size v) ?_
  refine be_init (s := ⟨(hp.push (kdv_tup [v])).push (excO C hp.objs.size), g, dr, tk, os⟩) T (X.keeps k) (hlim.keeps k) (hG.keeps k) ⟨mb, hb1.keeps k, hb2⟩ hget hnx ?_ fun h' tk' dx t1 ⟨k', hx, dn, dne, hns⟩ => ?_
  · show A.depth + 1 < recursionLimit
    exact hroom
  · have old : ∀ b o, hp.get? b = some o → h'.get? b = some o := fun b o e => k' b o (Nat.ne_of_lt (Nat.lt_succ_of_lt (Heap.lt_size e))) (k b o e)
    have z : hp.objs.size + 1 + 1 ≤ dx := by
      have q := dn
      rw [Heap.size_push, Heap.size_push] at q
      exact q
    exact ⟨rfl, hq h' tk' (hp.objs.size + 1) dx ⟨old, Nat.le_succ _, ⟨_, _, hx, rfl, rfl, rfl, rfl⟩, Nat.le_trans (Nat.le_trans (Nat.le_succ _) (Nat.le_succ _)) z, dne, hns⟩⟩
end
end BE
open PySem PySem.Spec PyProof.Rows L2

theorem relO_place {v : V} {v' : Value} (r : RelV v v') (f : Str) : RelO (List.lookup f [(("place" : Str), v)]) (if f = "place" then some v' else none) := by
  by_cases hw : f = "place"
  · subst hw
    rw [if_pos rfl]
    have q : List.lookup ("place" : Str) [(("place" : Str), v)] = some v := by simp [List.lookup]
    rw [q]
    exact r
  · rw [if_neg hw]
    have qw : (f == ("place" : Str)) = false := by simpa using hw
    have q2 : List.lookup f [(("place" : Str), v)] = none := by simp [List.lookup, qw]
    rw [q2]
    trivial
section
variable {X : Cx} {C fI : Addr}
/-- BadEntry(place) -/
def tMkBe (C : Addr) (ta : TA) : L2.St → Hp → XK → Prop := fun σ H Q => ta σ H fun vs H1 => ∃ v, vs = [v] ∧ ∀ d, H1 d = none → Q (.ref C) (some d) (upd H1 d (.xd [(("place" : Str), v)]))
theorem pmk_be {a : Expr} {ta : TA} {p pos : Pos} {k : Nat} (T : BE.BeTxt X.prog X.K X.mg C fI) (hr : Room k X.A) (ha : PA X [a] ta) (hg : Gl X "BadEntry" := by rfl)
    (he : starEach (a :: []) X.env = (false, eval a X.env) :: starEach [] X.env := by rfl) (hpl : (backTo pos (starEach [] X.env)).any (·.1) = false := by rfl) :
    PMk X (.Call (.Name "BadEntry" p) [a] [] pos) (tMkBe C ta) := by
  intro pins s σ H Q I h
  refine wpAny_Call_Name_kw (ld_glob I hg T.gC ?_)
  refine PySem.W.callWith_K (h₀ := X.base) I.ok.mod.kin T.kC (thn (ha.run pos pins s σ H _ I h) fun us s1 hh => ?_) he hpl
  obtain ⟨vs, H1, I1, r1, v, ev, q1⟩ := hh
  subst ev
  refine ⟨I1.kIn, ?_⟩
  cases r1 with
  | cons rv rn =>
    rename_i v' us'
    cases rn
    show wpAny _ _ (call (.ref C) [v']) _ _ _
    have hlim := I1.nolimit
    have hgl := I1.ok.mod.glob.keeps I1.bk
    obtain ⟨mb, hb1, hb2⟩ := I1.ok.mod.blt
    have hbl := hb1.keeps I1.bk
    obtain ⟨hp, g, dr, tk, os⟩ := s1
    refine wpAny_call (BE.be_made T I1.kIn hlim hgl ⟨mb, hbl, (hb2 _ (by decide)).trans (by decide +kernel)⟩ (by have := hr.dp; omega) fun h' tk' e d M => ?_)
    show MkP X pins σ Q (.ref e) ⟨h', g, dr, tk', os⟩
    obtain ⟨oe, fv, hoe, hc, hd, hdat, h1⟩ := M.obj
    have hns := M.ns
    obtain ⟨G', g1, g2⟩ := restrict h' fun b => decide (b ≠ e)
    have gk : ∀ b, b ≠ e → G'.get? b = h'.get? b := fun b hb => g1 b (decide_eq_true hb)
    have ge : G'.get? e = none := g2 e (by simp)
    have old : ∀ b o, hp.get? b = some o → G'.get? b = some o := fun b o q => (gk b (Nat.ne_of_lt (Nat.lt_of_lt_of_le (Heap.lt_size q) M.new))).trans (M.keep b o q)
    have ob : ObjOk X.prog X.w (upd H1 d (.xd [(("place" : Str), v)])) G' d (.xd [(("place" : Str), v)]) :=
      ⟨_, hns.at (fun o q => (gk d M.dne).trans q), fun f => relO_place rv f⟩
    have J : Inv X pins σ (upd H1 d (.xd [(("place" : Str), v)])) ⟨G', g, dr, tk', os⟩ := I1.laid (t' := tk') old M.dbig ob
    refine ⟨e, oe, fv, ⟨G', g, dr, tk', os⟩, _, .ref C, some d, rfl, J, fun b o q => ?_, ge, hoe, ⟨hc, hd⟩, hdat, h1, ?_, rfl, I1.bare, raises_own T.exC T.tyC, q1 d (I1.hok.fresh M.dbig)⟩
    · by_cases hb : b = e
      · have q' : G'.get? b = some o := q
        rw [hb, ge] at q'; cases q'
      · exact (gk b hb).symm.trans q
    · rw [upd_ne (Ne.symm M.dne)]
      exact I1.hok.fresh M.new
end
end K39
end

section
set_option Elab.async false
set_option linter.all false
set_option maxRecDepth 100000
set_option maxHeartbeats 4000000
/-! calls within a try; isinstance and a field of a caught BadEntry. -/
namespace K39
open PySem PySem.Spec PyProof.Rows L2
section
variable {X : Cx} {CX : CXT} {k j : Nat} {C : Addr} {sp : Sp} {E : L2.St → XK} {x m : Str} {p pos apos : Pos} {e o : Expr} {es : List Expr} {ta : TE} {t : TA}
/-- o.m(..) within a try: the wish about errors may look at the slots -/
def tMethS (C : Addr) (m : Str) (sp : Sp) (E : L2.St → XK) (ta : TE) (t : TA) : TE := fun σ H Q => ta σ H fun x H1 => ∃ a dx fs, x = .ref a ∧ H1 a = some (.ins C dx fs) ∧ fs.lookup m = none ∧
  t σ H1 fun vs H2 => sp (x :: vs) H2 Q (E σ)
theorem pe_mlS {pl : Sem Bool} (c : Ml X.prog X.w X.K X.mg X.base C CX k m sp) (hr : Room j X.A) (hk : k ≤ j) (hx : ∀ σ, PassesAt CX X σ (E σ)) (ho : PE X o ta) (ha : PA X (e :: es) t)
    (hst : starEach (e :: es) X.env = (false, eval e X.env) :: starEach es X.env := by rfl) (hpl : (backTo pos (starEach es X.env)).any (·.1) = false := by rfl)
    (ht : eval (.Call (.Attribute o m apos) (e :: es) [] pos) X.env = (do
      let ov ← eval o X.env
      standAt apos.atName
      let (f, first) ← holding [ov] (getMethod ov m pl)
      callWith pos f first (backTo pos (starEach (e :: es) X.env)) (backToKw pos (keywordEach [] X.env))) := by rfl) : PE X (.Call (.Attribute o m apos) (e :: es) [] pos) (tMethS C m sp E ta t) := by
  obtain ⟨f, fd, ps, G, hm, hb⟩ := c.ex
  refine ⟨fun pins s σ H Q I h => ?_⟩
  refine PySem.W.methodCall_KW (pl := pl) (thn (ho.run pins s σ H _ I h) fun u s1 hh => ?_) ht
  obtain ⟨y, H1, I1, ry, a, dx, fs, ey, ea, l, q⟩ := hh
  subst ey
  have eu : u = Value.ref a := ry
  subst eu
  refine getmeth_ok I1 ea c.cl hm l ?_
  refine PySem.W.callWith_K (first := [.ref a]) (h₀ := X.base) I.ok.mod.kin hm.kp (thn (ha.run pos pins s1 σ H1 _ I1 q) fun us s2 h2 => ?_) hst hpl
  obtain ⟨vs, H2, I2, r, q2⟩ := h2
  exact ⟨I2.kIn, run_fnS (us := .ref a :: us) (vs := .ref a :: vs) G (hr.mono hk) hb (hx σ) I2 (.cons rfl r) q2⟩
/-- f(..) within a try -/
theorem pe_clS (c : Cl X.prog X.w X.K X.mg X.base CX k x sp) (hr : Room j X.A) (hk : k ≤ j) (hg : Gl X x) (hx : ∀ σ, PassesAt CX X σ (E σ)) (ha : PA X (e :: es) t) (hdb : (x == ("__debug__" : Str)) = false := by decide)
    (hst : starEach (e :: es) X.env = (false, eval e X.env) :: starEach es X.env := by rfl)
    (hpl : (backTo pos (starEach es X.env)).any (·.1) = false := by rfl) : PE X (.Call (.Name x p) (e :: es) [] pos) (tCallS sp E t) := by
  obtain ⟨f, fd, ps, G, hm, hkp, hb⟩ := c
  exact pe_callS G (hr.mono hk) hg hm hkp hb hx ha hdb hst hpl
/-- isinstance(e, c), e the caught error with a dict of its own -/
def rIsD (K : PySem.W.Frag) (C a : Addr) (cls : Value) (d : Option Addr) : List V → Hp → VK → Prop := fun xs H Q => ∃ (c : V) (cv : Value) (b : Bool) (dd : Addr) (fs : List (Str × V)), xs = [.ref a, c] ∧ cls = .ref C ∧ d = some dd ∧ H dd = some (.xd fs) ∧ (∀ u, RelV c u → u = cv) ∧ PySem.W.kitOne K (.ref C) cv = some b ∧ Q (.bl b) H
theorem call_isD {X : Cx} {a C : Addr} {oe : Obj} {cls : Value} {d : Option Addr} {pn : List (Addr × Obj)} (T : ExcC X.K C) (hz : Zc cls d oe) (hf : ∃ vs, oe.data = .fields vs) : CallR (X.suite a ((a, oe) :: pn)) (.builtin "isinstance") (rIsD X.K C a cls d) := by
  intro pins s σ H xs us Q I rel h
  obtain ⟨c, cv, b, dd, fs, rfl, rfl, rfl, hdd, hcv, e, q⟩ := h
  cases rel with
  | cons rx rr =>
    cases rr with
    | cons rt rr =>
      cases rr
      cases rx
      have ec := hcv _ rt
      subst ec
      have hget := (I.pin (a, oe) (List.mem_append.mpr (.inl List.mem_cons_self))).1
      obtain ⟨vs, hv⟩ := hf
      obtain ⟨mA, hns, hr⟩ : ObjOk X.prog X.w H s.heap dd (.xd fs) := I.hok dd _ hdd
      obtain ⟨od, ho, hl⟩ := lookIn_ns hns
      have J : PySem.W.InstAt s.heap a oe C (some od) := ⟨hget, hz.1, by unfold PySem.W.notCls; rw [hv] <;> rfl, by rw [hz.2]; exact ho⟩
      have hcl : (PySem.W.clsIn X.K C).isSome = true := by
        have h1 := T.hd
        unfold PySem.W.hasDictIn at h1
        cases hc : PySem.W.clsIn X.K C with
        | some cd => rfl
        | none =>
          rw [hc] at h1
          cases h1
      exact PySem.W.kia_one (PySem.W.kitx_exc hcl T.hg T.hk T.hs T.ha T.hn T.ht T.hm) I.kIn J e (fun z => nomatch z) fun tk => ⟨.bl b, H, I.kept (t' := tk) fun _ _ z => z, rfl, q⟩
end
end K39
end

section
set_option Elab.async false
set_option linter.all false
set_option maxRecDepth 100000
set_option maxHeartbeats 4000000
/-! more rules: objects told one by one, append to a field, a field set, tuple.index, x[i] = v, while. -/
namespace K39
open PySem PySem.Spec PyProof.Rows L2

/-- objects that stand, told one by one -/
def rawW (objs : List (Addr × HO)) : Wd where
  M := []
  own := objs.map (·.1)
  I := fun F H => ∀ q ∈ objs, H q.1 = some q.2 ∧ F q.1 = none
  sub := fun _ h => nomatch h
  al := fun F H i x hx => by
    obtain ⟨q, hq, rfl⟩ := List.mem_map.mp hx
    exact nn (i q hq).1
  st' := fun F H F' H' sf ow i q hq => by
    obtain ⟨a, b⟩ := ow q.1 (List.mem_map_of_mem hq)
    exact ⟨b.trans (i q hq).1, a.trans (i q hq).2⟩
section
variable {W : Wd} {σ : L2.St} {F H F1 H1 : Hp} {te ta tb tc to : TE} {tl tr : TA} {tt t u : TT} {a b c : Ar} {as : List Ar} {v w : V} {d e : PyData} {r : R2} {K : PySem.W.Frag} {D : Ends} {tu tw tz : TS}
theorem pr_as (h : Pr W te σ F H (.raw v)) (hd : Dt F v d) : Pr W te σ F H (.dt d) := fun F1 H1 g i Q q => h F1 H1 g i Q fun F2 H2 v2 g2 i2 s2 => q F2 H2 v2 g2 i2 (by
  have e : v2 = v := s2
  rw [e]
  exact (hd.mono g.ff).mono g2.ff)
theorem pr_fldR {objs : List (Addr × HO)} {C dx p : Addr} {fs : List (Str × V)} {f : Str} {i : Nat} (hm : (p, HO.ins C dx fs) ∈ objs) (c : Cls K C) (n : NoAttr K C f) (l : fs.lookup f = some v) (h : σ[i]? = some (some (.ref p))) : Pr (rawW objs) (tFld K (tVar i) f) σ F H (.raw v) :=
  pr_fld (pr_var h) fun F H _ iw => ⟨C, dx, fs, v, (iw _ hm).1, c, n, l, rfl⟩
/-- xs.append(e), the list told by an expression -/
theorem q_appendE {l : Addr} (sf : Same F H) (iw : W.I F H) (ho : Pr W to σ F H (.raw (.ref l))) (hl : ∀ F H, W.I F H → ∃ xs, H l = some (.lst xs) ∧ xs.length ≤ 10000) (h : Pr W te σ F H a)
    (k : ∀ F1 H1 v xs, Gw W.M F H F1 H1 → W.I F1 H1 → a.sat F1 v → H1 l = some (.lst xs) → tz D σ (upd H1 l (.lst (xs ++ [v])))) : tSeq (tDrop (tBM K "list" rAppend to (tCons te tNil))) tz D σ H :=
  ho F H (Gw.refl sf) iw _ fun F1 H1 v1 g1 i1 s1 => by
    have e1 : v1 = .ref l := s1
    obtain ⟨xs, h1, hz⟩ := hl F1 H1 i1
    subst e1
    refine ⟨.inl ⟨rfl, _, SqL.of h1⟩, h F1 H1 g1 i1 _ fun F2 H2 v g2 i2 s2 => ?_⟩
    obtain ⟨ys, h2, hz2⟩ := hl F2 H2 i2
    exact ⟨l, ys, v, rfl, rfl, h2, sz4000 hz2, k F2 H2 v ys (g1.trans g2) i2 s2 h2⟩
/-- o.f = e -/
theorem q_fld {i : Nat} {C p : Addr} {f : Str} (sf : Same F H) (iw : W.I F H) (h : Pr W te σ F H a) (hv : σ[i]? = some (some (.ref p))) (c : Cls K C) (n : NoAttr K C f)
    (k : ∀ F1 H1 v, Gw W.M F H F1 H1 → W.I F1 H1 → a.sat F1 v → ∃ dx fs, H1 p = some (.ins C dx fs) ∧ fs.length < 1000 ∧ tz D σ (upd H1 p (.ins C dx (putF f v fs)))) : tSeq (sFld K (tVar i) te f) tz D σ H :=
  h F H (Gw.refl sf) iw _ fun F1 H1 v g1 i1 s1 => by
    obtain ⟨dx, fs, h1, h2, h3⟩ := k F1 H1 v g1 i1 s1
    exact ⟨_, hv, p, C, dx, fs, rfl, h1, c, n, h2, h3⟩
theorem s_fld {i : Nat} {C p : Addr} {f : Str} (sf : Same F H) (iw : W.I F H) (h : Pr W te σ F H a) (hv : σ[i]? = some (some (.ref p))) (c : Cls K C) (n : NoAttr K C f)
    (k : ∀ F1 H1 v, Gw W.M F H F1 H1 → W.I F1 H1 → a.sat F1 v → ∃ dx fs, H1 p = some (.ins C dx fs) ∧ fs.length < 1000 ∧ D.nx σ (upd H1 p (.ins C dx (putF f v fs)))) : sFld K (tVar i) te f D σ H :=
  h F H (Gw.refl sf) iw _ fun F1 H1 v g1 i1 s1 => by
    obtain ⟨dx, fs, h1, h2, h3⟩ := k F1 H1 v g1 i1 s1
    exact ⟨_, hv, p, C, dx, fs, rfl, h1, c, n, h2, h3⟩
/-- t.index(x), t a tuple of texts with no dict -/
def tBMT (r : V → List V → Hp → VK → Prop) (to : TE) (t : TA) : TE := fun σ H Q => to σ H fun x H1 => (∃ a, x = .ref a ∧ NoDict H1 a) ∧ t σ H1 fun xs H2 => r x xs H2 Q
theorem pr_indexT {l : List Str} {s : Str} {pm : Addr} (hs : s ∈ l) (hn : NoDict F pm) (hd : Dt F (.ref pm) (.tuple (l.map .str))) (ho : Pr W to σ F H (.raw (.ref pm))) (h : Pr W te σ F H (.dt (.str s))) :
    Pr W (tBMT (fun x xs H Q => ∃ p, ∃ ys : List Str, ∃ z j, x = .ref p ∧ xs = [.str z] ∧ SqT K H p (ys.map V.str) ∧ ys[j]? = some z ∧ (∀ m, m < j → ys[m]? ≠ some z) ∧ Q (.int (j : Nat)) H) to (tCons te tNil)) σ F H (.dt (.int (ixOf l s : Nat))) := fun F1 H1 g i Q q =>
  ho F1 H1 g i _ fun F2 H2 v2 g2 i2 s2 => by
    have ev : v2 = .ref pm := s2
    subst ev
    cases hd with
    | @tup p xs _ h1 h2 =>
      have e := h2.strs
      subst e
      obtain ⟨o, ys, e1, e2⟩ := hn
      refine ⟨⟨pm, rfl, o, ys, g2.fh _ _ (g2.ff _ _ (g.ff _ _ e1)), e2⟩, h F2 H2 (g.trans g2) i2 _ fun F3 H3 v3 g3 i3 s3 => ?_⟩
      cases s3
      exact ⟨pm, l, s, ixOf l s, rfl, rfl, sqt_rd (rd_mono g3.fh (rd_mono ((g.trans g2).trans g3).ff h1)), ix_get hs, fun m hm => ix_first hm, q F3 H3 _ (g2.trans g3) i3 (.int _)⟩
/-- a tuple display that is known to have no dict -/
def tTupF (t : TA) : TE := fun σ H Q => t σ H fun xs H1 => xs.length ≤ sizeLine ∧ ∀ p (o : Obj), H1 p = none → o.dict = none → Q (.ref p) (upd H1 p (.frz o (.tup xs)))
/-- t + u: what is new has no dict -/
def rCatF (K : PySem.W.Frag) : R2 := fun x y H Q => ∃ a b xs ys, x = .ref a ∧ y = .ref b ∧ SqT K H a xs ∧ SqT K H b ys ∧ xs.length + ys.length ≤ sizeLine ∧
  (xs = [] → Q (.ref b) H) ∧ (xs ≠ [] → ys = [] → Q (.ref a) H) ∧ (xs ≠ [] → ys ≠ [] → ∀ p (o : Obj), H p = none → o.dict = none → Q (.ref p) (upd H p (.frz o (.tup (xs ++ ys)))))
def ndW (ds : List PyData) : Ar := .fn (fun F v => Dt F v (.tuple ds) ∧ ∃ a, v = .ref a ∧ NoDict F a) fun _ _ _ e h => ⟨h.1.mono e, h.2.imp fun _ q => ⟨q.1, q.2.imp fun _ q => q.imp fun _ q => ⟨e _ _ q.1, q.2⟩⟩⟩
theorem pr_catF {ds : List PyData} (hl : ds.length ≤ 1000) (ha : Pr W ta σ F H (.dt (.tuple ds))) (hb : Pr W tb σ F H (.dt d)) : Pr W (tOp (rCatF K) ta (tTupF (tCons tb tNil))) σ F H (ndW (ds ++ [d])) := fun F1 H1 g i Q q =>
  ha F1 H1 g i _ fun F2 H2 v2 g2 i2 s2 => hb F2 H2 (g.trans g2) i2 _ fun F3 H3 v3 g3 i3 s3 => by
    refine ⟨by show 1 ≤ sizeLine; decide, fun p o hp ho => ?_⟩
    have g4 : Gw [] F3 H3 (upd F3 p (.frz o (.tup [v3]))) (upd H3 p (.frz o (.tup [v3]))) := (Gw.refl g3.fh).frz hp
    cases s2 with
    | @tup a xs _ h1 h2 =>
      have g5 := g3.trans g4.pure
      have i4 := W.st _ _ _ _ g4 i3
      have hxs := (h2.mono g5.ff)
      have nd : NoDict (upd F3 p (.frz o (.tup [v3]))) p := ⟨o, _, upd_same, ho⟩
      refine ⟨a, p, xs, [v3], rfl, rfl, sqt_rd (rd_mono g4.fh (rd_mono g5.ff h1)), .inl (.inr ⟨o, upd_same⟩), ?_, fun e => ?_, fun _ e => (nomatch e), fun _ _ p2 o2 hp2 ho2 => ?_⟩
      · rw [h2.len]
        exact Nat.le_of_lt (sz4000 (by simp only [List.length_singleton]; omega))
      · subst e
        cases ds with
        | cons d' r => cases h2
        | nil => exact q _ _ _ (g2.trans g5) i4 ⟨.tup (.inr ⟨o, upd_same⟩) (.cons (s3.mono g4.ff) .nil), p, rfl, nd⟩
      · have g6 : Gw [] (upd F3 p (.frz o (.tup [v3]))) (upd H3 p (.frz o (.tup [v3]))) _ _ := (Gw.refl g4.fh).frz (o := .frz o2 (.tup (xs ++ [v3]))) hp2
        exact q _ _ _ ((g2.trans g5).trans g6.pure) (W.st _ _ _ _ g6 i4) ⟨.tup (.inr ⟨o2, upd_same⟩) ((hxs.snoc (s3.mono g4.ff)).mono g6.ff), p2, rfl, o2, _, upd_same, ho2⟩
end
section
variable {X : Cx}
theorem pe_tupF {es : List Expr} {k : Nat} {pos : Pos} {t : TA} (h : PA X es t) : PE X (.Tuple es k pos) (tTupF t) := by
  refine ⟨fun pins s σ H Q I hh => ?_⟩
  refine wpAny_Tuple_spliced (thn (h.run pos pins s σ H _ I hh) fun us s1 hh2 => ?_)
  obtain ⟨xs, H1, I1, r, z, q⟩ := hh2
  have fresh : H1 s1.heap.objs.size = none := I1.hok.fresh (Nat.le_refl _)
  have e1 : (s1.heap.push { cls := .type "tuple", data := .seq us.toArray }).get? s1.heap.objs.size = some { cls := .type "tuple", data := .seq us.toArray } := Heap.get?_push_size _ rfl
  refine ⟨by rw [← r.length]; exact z, .ref s1.heap.objs.size, upd H1 s1.heap.objs.size (.frz { cls := .type "tuple", data := .seq us.toArray } (.tup xs)), I1.laid (t' := s1.toks) (fun b u e => Heap.get?_push_of_some _ e) (Nat.le_refl _) ?_, rfl, q _ _ fresh rfl⟩
  exact ⟨e1, z, us, r, _, e1, rfl, _, rfl⟩
theorem op_catF : OpR X (binaryOp .Add) (rCatF X.K) := by
  intro pins s σ H x y v u Q I relx rely hh
  obtain ⟨a, b, xs, ys, rfl, rfl, hta, htb, hz, q0, q1, q2⟩ := hh
  cases relx
  cases rely
  obtain ⟨its, r1, p1, _⟩ := I.tuple hta
  obtain ⟨its2, r2, p2, _⟩ := I.tuple htb
  by_cases hx : xs = []
  · subst hx
    cases r1
    exact cat_tup0 p1 p2 ⟨V.ref b, H, I, rfl, q0 rfl⟩
  · refine HT.cat_tup p1 p2 (fun z => hx (r1.nil_iff.mp z)) (fun z => ⟨.ref a, H, I, rfl, q1 hx (r2.nil_iff.mp z)⟩) (fun z => ?_) (by rw [← r1.length, ← r2.length]; exact hz)
    have e1 : (s.heap.push { cls := .type "tuple", data := .seq (its ++ its2).toArray }).get? s.heap.objs.size = some { cls := .type "tuple", data := .seq (its ++ its2).toArray } := Heap.get?_push_size _ rfl
    refine ⟨.ref s.heap.objs.size, _, I.laid (t' := s.toks) (o := .frz { cls := .type "tuple", data := .seq (its ++ its2).toArray } (.tup (xs ++ ys))) (fun b ob q => Heap.get?_push_of_some _ q) (Nat.le_refl _) ?_, rfl, q2 hx (fun w => z (r2.nil_iff.mpr w)) _ _ (I.hok.fresh (Nat.le_refl _)) rfl⟩
    exact ⟨e1, by rw [List.length_append]; exact hz, _, r1.append r2, _, e1, rfl, _, rfl⟩
theorem pe_bmT {o e : Expr} {es : List Expr} {to : TE} {t : TA} {name : Str} {apos cpos : Pos} {id : String} {r : V → List V → Hp → VK → Prop} (pa : PlainAttrs "tuple") (slot : Slot "tuple" name id) (hty : typeOf (.builtin id) = pure (.type "method_descriptor")) (hm : MtR X id r) (ho : PE X o to) (ha : PA X (e :: es) t)
    (base : attributeBase o name X.env (eval o X.env) = eval o X.env := by rfl)
    (few : ((backTo cpos (starEach (e :: es) X.env)).all (fun x => !x.1) &&
      (backToKw cpos (keywordEach [] X.env)).all (fun x => x.1.isSome) &&
      decide ((e :: es).length + ([] : List Keyword).length +
        (if ([] : List Keyword).isEmpty then 0 else 1) < 30)) = true := by rfl)
    (line : (apos.endLine == cpos.line) = true := by rfl)
    (star : starEach (e :: es) X.env = (false, eval e X.env) :: starEach es X.env := by rfl)
    (plain : (backTo cpos (starEach es X.env)).any (·.1) = false := by rfl) :
    PE X (.Call (.Attribute o name apos) (e :: es) [] cpos) (tBMT r to t) := by
  refine ⟨fun pins s σ H Q I hh => ?_⟩
  refine wpAny_Call_method_late base few line rfl (thn (ho.run pins s σ H _ I hh) fun v s1 hh2 => ?_)
  obtain ⟨x, H1, I1, r1, ⟨a, rfl, ob, xs, e1, e2⟩, q1⟩ := hh2
  cases r1
  obtain ⟨e3, e4⟩ : ObjOk X.prog X.w H1 s1.heap a (.frz ob (.tup xs)) := I1.hok a _ e1
  obtain ⟨_, its, _, ot, e5, e6, _⟩ := e4
  refine ⟨"tuple", id, pa, slot, hty, ⟨ot, e5, e6⟩, fun b hb => ?_, ?_⟩
  · cases hb
    exact ⟨ob, e3, e2⟩
  · have args := ha.run cpos pins s1 σ H1 _ I1 q1
    rw [star] at args ⊢
    have nost : (false || (backTo cpos (starEach es X.env)).any (·.1)) = false := by rw [plain] <;> rfl
    refine Calls.callWith_builtin nost (Calls.evalArgs_plain ?_)
    refine thn args fun us s2 h2 => ?_
    obtain ⟨ys, H2, I2, r2, q2⟩ := h2
    exact hm pins s2 σ H2 (.ref a) ys (.ref a) us Q I2 rfl r2 q2
end
end K39
end

section
set_option Elab.async false
set_option linter.all false
set_option maxRecDepth 100000
set_option maxHeartbeats 4000000
namespace K39
open PySem PySem.Spec PyProof.Rows L2

section
variable {P : Program} {w : World} {K : PySem.W.Frag} {mg : Str → Option Value} {base : Heap} {C dl Cb fI : Addr}

/-! ### Desk.__init__ -/
-- slots: 0 self
abbrev s_init : Stmt := inClass (top 19) 0
theorem sc_init : FnScope ["self"] ["self"] (defScope s_init) := ⟨rfl, rfl, rfl, by decide +kernel, rfl, by decide +kernel, by decide +kernel⟩
def sp_init (C : Addr) : Sp := fun vs H Q _ => ∃ (F : Hp) (p dx : Addr), vs = [.ref p] ∧ Same F H ∧ F p = none ∧ H p = some (.ins C dx []) ∧
  ∀ F' H' le lb, Gw [p] F H F' H' → H le = none → H lb = none → DeskAt C p le lb md0 [] F' H' → Q .non H'
/-- a desk is made: its class, its __init__ -/
structure Mkr (P : Program) (w : World) (K : PySem.W.Frag) (mg : Str → Option Value) (base : Heap) (C : Addr) (k : Nat) : Prop where
  gC : mg "Desk" = some (.ref C)
  ex : ∃ f fd ps, Mk K C f ∧ FnOk P w K mg base CX0 k f fd ps (sp_init C) ∧ Binds K fd ps []
theorem pe_mk0 {X : Cx} {k j : Nat} {p pos : Pos} (c : Mkr X.prog X.w X.K X.mg X.base C k) (hr : Room j X.A) (hk : k + 1 ≤ j) (hg : Gl X "Desk") : PE X (.Call (.Name "Desk" p) [] [] pos) (tMake C (sp_init C) [] E0 tNil) := by
  obtain ⟨f, fd, ps, M, F, hb⟩ := c.ex
  exact pe_make0 M F (hr.mono hk) hg c.gC hb .nil pass0
theorem gw_made {F H F' H' : Hp} {p dx : Addr} {o o2 : HO} (sf : Same F H) (hp : H p = none) (hd : H dx = none) (g : Gw [p] F (upd (upd H dx o) p o2) F' H') : Gw [] F H F' H' := by
  have e : ∀ b, H b ≠ none → upd (upd H dx o) p o2 b = H b := fun b hb => by
    rw [upd_ne (fun z => hb (by rw [z]; exact hp)), upd_ne (fun z => hb (by rw [z]; exact hd))]
  refine ⟨g.ff, fun b hb => g.new b (by rw [e b hb]; exact hb), g.fh, fun b u hb h => ?_, fun b hb => g.there b (by rw [e b hb]; exact hb)⟩
  have hn : H b ≠ none := nn h
  refine g.keep b u (fun z => ?_) ((e b hn).trans h)
  have z' : b = p := by simpa using z
  exact hn (by rw [z']; exact hp)
/-- Desk() -/
theorem mk_desk {Q : VK} {σ : L2.St} {F H : Hp} {E : XK} (sf : Same F H) (k : ∀ F' H' p le lb, Gw [] F H F' H' → H p = none → H le = none → H lb = none → DeskAt C p le lb md0 [] F' H' → Q (.ref p) H') : tMake C (sp_init C) [] E tNil σ H Q := by
  intro x dx hx hd hne
  have s1 : Same F (upd (upd H dx (.own x)) x (.ins C dx [])) := fun b u e => by
    have e1 := sf b u e
    rw [upd_ne (ne_of_none e1 hx), upd_ne (ne_of_none e1 hd)]
    exact e1
  refine ⟨F, x, dx, rfl, s1, same_fnone sf hx, upd_same, fun F' H' le lb g hle hlb da => ⟨rfl, ?_⟩⟩
  have un : ∀ b, upd (upd H dx (.own x)) x (HO.ins C dx []) b = none → H b = none := fun b h => by
    by_cases h1 : b = x
    · rw [h1]; exact hx
    · rw [upd_ne h1] at h
      by_cases h2 : b = dx
      · rw [h2]; exact hd
      · rwa [upd_ne h2] at h
  exact k F' H' x le lb (gw_made sf hx hd g) hx (un le hle) (un lb hlb) da
theorem fs_step {F H F1 H1 : Hp} {p : Addr} {o o2 : HO} (g : Gw [] F H F1 H1) (fp : F p = none) (h : H p = some o) : F1 p = none ∧ Gw [p] F H F1 (upd H1 p o2) := by
  have f1 : F1 p = none := g.fnone (nn h) fp
  exact ⟨f1, g.pure.write f1 (.inr (by simp))⟩
theorem ok_init {f : Addr} {fd : FuncData} (F : Fun K "__init__" "Desk.__init__" s_init f fd) (T : Txt K w mg C dl) : FnOk P w K mg base CX0 1 f fd ["self"] (sp_init C) := by
  refine F.ok sc_init (fun vs H Q E h => ?_) fun cdv A outer s H vs Q E hr h => ?_
  · obtain ⟨_, _, _, rfl, _⟩ := h
    rfl
  · obtain ⟨F, p, dx, rfl, sf, fp, hp, q⟩ := h
    refine ⟨_, (pss_cons (ps_fld (pv 0) (pe_tup pa_nil) rfl) (pss_cons (ps_fld (pv 0) (pe_tup pa_nil) rfl) (pss_cons (ps_fld (pv 0) pe_int rfl) (pss_cons (ps_fld (pv 0) pe_int rfl) (pss_cons (ps_fld (pv 0) (pe_lst pa_nil) rfl) (pss_one (ps_fld (pv 0) (pe_lst pa_nil) rfl))))))), ?_⟩
    have e : (start ["self"] [.ref p]) = [some (.ref p)] := rfl
    rw [e]
    have W1 : (rawW [(p, HO.ins C dx [])]).I F H := fun q hq => by
      have : q = (p, HO.ins C dx []) := by simpa using hq
      rw [this]; exact ⟨hp, fp⟩
    refine q_fld (W := rawW [(p, HO.ins C dx [])]) (F := F) (a := .dt (.tuple [])) sf W1 (pr_tup prd_nil (Nat.zero_le _)) rfl T.cl T.nmarks fun F1 H1 v1 g1 i1 s1 => ?_
    have hp1 := (i1 _ List.mem_cons_self).1
    obtain ⟨f1, k1⟩ := fs_step (o2 := .ins C dx (putF "marks" v1 [])) g1 fp hp
    refine ⟨dx, [], hp1, by decide, ?_⟩
    refine q_fld (W := rawW [(p, HO.ins C dx (putF "marks" v1 []))]) (F := F1) (a := .dt (.tuple [])) k1.fh (fun q hq => ?_) (pr_tup prd_nil (Nat.zero_le _)) rfl T.cl T.nrows fun F2 H2 v2 g2 i2 s2 => ?_
    · have : q = (p, HO.ins C dx (putF "marks" v1 [])) := by simpa using hq
      rw [this]; exact ⟨upd_same, f1⟩
    have hp2 := (i2 _ List.mem_cons_self).1
    obtain ⟨f2, k2⟩ := fs_step (o2 := .ins C dx (putF "rows" v2 (putF "marks" v1 []))) g2 f1 upd_same
    refine ⟨dx, _, hp2, by simp only [putF, e_marks_rows]; simp only [List.length]; omega, ?_⟩
    refine q_fld (W := rawW [(p, HO.ins C dx (putF "rows" v2 (putF "marks" v1 [])))]) (F := F2) (a := .dt (.int 0)) k2.fh (fun q hq => ?_) pr_int rfl T.cl T.nnext fun F3 H3 v3 g3 i3 s3 => ?_
    · have : q = (p, HO.ins C dx (putF "rows" v2 (putF "marks" v1 []))) := by simpa using hq
      rw [this]; exact ⟨upd_same, f2⟩
    have hp3 := (i3 _ List.mem_cons_self).1
    obtain ⟨f3, k3⟩ := fs_step (o2 := .ins C dx (putF "next" v3 (putF "rows" v2 (putF "marks" v1 [])))) g3 f2 upd_same
    refine ⟨dx, _, hp3, by simp only [putF, e_marks_rows, if_false]; simp only [List.length]; omega, ?_⟩
    refine q_fld (W := rawW [(p, HO.ins C dx (putF "next" v3 (putF "rows" v2 (putF "marks" v1 []))))]) (F := F3) (a := .dt (.int 0)) k3.fh (fun q hq => ?_) pr_int rfl T.cl T.nk fun F4 H4 v4 g4 i4 s4 => ?_
    · have : q = (p, HO.ins C dx (putF "next" v3 (putF "rows" v2 (putF "marks" v1 [])))) := by simpa using hq
      rw [this]; exact ⟨upd_same, f3⟩
    have hp4 := (i4 _ List.mem_cons_self).1
    obtain ⟨f4, k4⟩ := fs_step (o2 := .ins C dx (putF "k" v4 (putF "next" v3 (putF "rows" v2 (putF "marks" v1 []))))) g4 f3 upd_same
    refine ⟨dx, _, hp4, by simp only [putF, e_marks_rows, e_marks_next, e_rows_next, if_false]; simp only [List.length]; omega, ?_⟩
    have k14 := ((k1.trans k2).trans k3).trans k4
    refine ⟨Nat.zero_le _, fun le hle => ⟨_, rfl, p, C, dx, putF "k" v4 (putF "next" v3 (putF "rows" v2 (putF "marks" v1 []))), rfl, ?_, T.cl, T.nentries, by simp only [putF, e_marks_rows, e_marks_next, e_rows_next, e_marks_k, e_rows_k, e_next_k, if_false]; simp only [List.length]; omega, ?_⟩⟩
    · rw [upd_ne (fun z => by rw [← z, upd_same] at hle; cases hle)]
      exact upd_same
    have nle : p ≠ le := fun z => by rw [← z, upd_same] at hle; cases hle
    have k5 : Gw [p] F H F4 _ := (k14.fresh (o := .lst []) hle).write (p := p) (o := .ins C dx (putF "entries" (.ref le) (putF "k" v4 (putF "next" v3 (putF "rows" v2 (putF "marks" v1 [])))))) f4 (.inr (by simp))
    refine ⟨Nat.zero_le _, fun lb hlb => ⟨_, rfl, p, C, dx, putF "entries" (.ref le) (putF "k" v4 (putF "next" v3 (putF "rows" v2 (putF "marks" v1 [])))), rfl, ?_, T.cl, T.nbefore, by simp only [putF, e_marks_rows, e_marks_next, e_rows_next, e_marks_k, e_rows_k, e_next_k, e_marks_entries, e_rows_entries, e_next_entries, e_k_entries, if_false]; simp only [List.length]; omega, ?_⟩⟩
    · rw [upd_ne (fun z => by rw [← z, upd_same] at hlb; cases hlb)]
      exact upd_same
    have nlb : p ≠ lb := fun z => by rw [← z, upd_same] at hlb; cases hlb
    have nn2 : le ≠ lb := fun z => by rw [← z, upd_ne (Ne.symm nle), upd_same] at hlb; cases hlb
    have k6 : Gw [p] F H F4 _ := (k5.fresh (o := .lst []) hlb).write (p := p) (o := .ins C dx (putF "before" (.ref lb) (putF "entries" (.ref le) (putF "k" v4 (putF "next" v3 (putF "rows" v2 (putF "marks" v1 []))))))) f4 (.inr (by simp))
    have le0 : H le = none := k14.back hle
    have lb0 : H lb = none := k5.back hlb
    refine q F4 _ le lb k6 le0 lb0 ?_
    cases s3
    cases s4
    have d1 : Dt F4 v1 (.tuple []) := Dt.mono ((k2.ff.trans k3.ff).trans k4.ff) s1
    have d2 : Dt F4 v2 (.tuple []) := Dt.mono (k3.ff.trans k4.ff) s2
    obtain ⟨pm, rfl⟩ : ∃ a, v1 = .ref a := by cases s1; exact ⟨_, rfl⟩
    obtain ⟨pr, rfl⟩ : ∃ a, v2 = .ref a := by cases s2; exact ⟨_, rfl⟩
    rw [pt_init]
    refine ⟨⟨dx, pm, pr, upd_same, d1, d2, .inl rfl⟩, ⟨[], ?_, .nil⟩, ⟨[], ?_, Nat.le_refl _⟩, f4, same_fnone k14.fh hle, ?_, nn2⟩
    · rw [upd_ne (Ne.symm nle), upd_ne nn2, upd_ne (Ne.symm nle), upd_same]
    · rw [upd_ne (Ne.symm nlb), upd_same]
    · exact same_fnone k5.fh hlb

/-! ### net -/
-- slots: 0 self
abbrev s_net : Stmt := inClass (top 19) 9
theorem sc_net : FnScope ["self"] ["self"] (defScope s_net) := ⟨rfl, rfl, rfl, by decide +kernel, rfl, by decide +kernel, by decide +kernel⟩
def netD (m : Md) : PyData := .tuple [.str "net", .tuple (m.marks.map .str), rdsD m]
def sp_net (C : Addr) : Sp := fun vs H Q _ => ∃ (F : Hp) (p le lb : Addr) (m : Md) (es : List PyData), vs = [.ref p] ∧ Same F H ∧ DeskAt C p le lb m es F H ∧ Wf m ∧ m.marks ≠ [] ∧ ∀ F' H' v, Gw [] F H F' H' → Dt F' v (netD m) → Q v H'
theorem sg_net {W : Wd} {p le lb : Addr} {m : Md} {es : List PyData} (hI : ∀ F H, W.I F H → DeskAt C p le lb m es F H) (hm : Wf m) (hn : m.marks ≠ []) : Sg W (sp_net C) [.raw (.ref p)] (.dt (netD m)) := fun F H vs sf i ha Q E q => by
  obtain ⟨v, r, rfl, rfl, rfl⟩ := ha
  exact ⟨F, p, le, lb, m, es, rfl, sf, hI F H i, hm, hn, fun F' H' v g hv => q F' H' v g.pure (W.st _ _ _ _ g i) hv⟩
theorem eqv_nil {d : PyData} {l : List PyData} : PyData.eqv (.tuple (d :: l)) (.tuple []) = false := by
  first
    | rfl
    | simp [PyData.eqv, PyData.eqvAll]
theorem ok_net (F : Dm K C "net" "Desk.net" s_net) (T : Txt K w mg C dl) (c_readings : Ml P w K mg base C CX0 1 "readings" (sp_rd C rdsD)) : Ml P w K mg base C CX0 2 "net" (sp_net C) := by
  refine ml_of T.cl F sc_net (fun vs H Q E h => ?_) (fun _ _ _ _ _ _ us hl => match us, hl with | [_], _ => rfl) fun f cdv A outer s H vs Q E hr h => ?_
  · obtain ⟨_, _, _, _, _, _, rfl, _⟩ := h
    rfl
  · obtain ⟨F, p, le, lb, m, es, rfl, sf, da, hm, hn, q⟩ := h
    refine ⟨_, (pss_cons (ps_if (pt_cmpR (op_eqD hr.units) (pe_fldK K (pv 0) rfl) (pe_tup pa_nil) (nomark _)) (pss_one ps_never) pss_nil) (pss_one (ps_ret (pe_tup (pa_cons pe_str (pa_cons (pe_fldK K (pv 0) rfl) (pa_cons (pe_ml0 c_readings hr (by decide) (pv 0)) pa_nil))))))), ?_⟩
    have e : (start ["self"] [.ref p]) = [some (.ref p)] := rfl
    rw [e]
    have hI : ∀ F H, (deskW C p le lb m es).I F H → DeskAt C p le lb m es F H := fun _ _ z => z
    have hp : ∀ (mm : Str), (∀ {pm pr : Addr} {a b : Int}, (fsD pm pr a b le lb).lookup mm = none) → ∀ F H, (deskW C p le lb m es).I F H → ∃ dx fs, H p = some (.ins C dx fs) ∧ fs.lookup mm = none := fun mm hmm F H i => by
      obtain ⟨dx, pm, pr, e1, _⟩ := (hI F H i).ins
      exact ⟨dx, _, e1, hmm⟩
    refine q_when (W := deskW C p le lb m es) (F := F) (b := false) sf da (prt_to (prt_test (pr_eqD (sh_names hm.short |>.ok (by decide)) (sh_tup (n := 1) (ds := []) (fun _ h => nomatch h) |>.ok (by decide)) (pr_marks T hI rfl) (pr_tup prd_nil (Nat.zero_le _)))) ?_) (fun hb => nomatch hb) fun _ F1 H1 g1 i1 => ?_
    · cases hmm : m.marks with
      | nil => exact absurd hmm hn
      | cons x l => exact eqv_nil
    refine s_ret (W := deskW C p le lb m es) (F := F1) (a := .dt (netD m)) g1.fh i1 ?_ fun F2 H2 v g2 i2 s2 => q F2 H2 v (g1.trans g2) s2
    exact pr_tup (prd_cons pr_str (prd_cons (pr_marks T hI rfl) (prd_cons (pr_meth (sg_rd (f := rdsD) hI (Nat.le_trans hm.few2 (by decide))) (pr_var rfl) (hp "readings" lk_readings) pra_nil) prd_nil))) (by simp only [List.length]; omega)
end
end K39
end

section
set_option Elab.async false
set_option linter.all false
set_option maxRecDepth 100000
set_option maxHeartbeats 4000000
namespace K39
open PySem PySem.Spec PyProof.Rows L2

section
variable {P : Program} {w : World} {K : PySem.W.Frag} {mg : Str → Option Value} {base : Heap} {C dl Cb fI : Addr}

/-! ### do -/
-- slots: 0 self, 1 deed (cell), 2 reading, 3 row
abbrev s_do : Stmt := inClass (top 19) 4
theorem sc_do : FnScope ["self", "deed", "reading", "row"] ["self", "deed"] (defScope s_do) := ⟨rfl, rfl, rfl, by decide +kernel, rfl, by decide +kernel, by decide +kernel⟩
def sp_do (C Cb : Addr) : Sp := fun vs H Q E => ∃ (F : Hp) (p le lb : Addr) (m : Md) (es : List PyData) (v : V) (d : PyData), vs = [.ref p, v] ∧ Same F H ∧ DeskAt C p le lb m es F H ∧ Wf m ∧ Dt F v d ∧ DOk d ∧
  (canDo m es.length d = false → ∀ F' H' dd, Gw [] F H F' H' → H' dd = some (.xd [("place", .int es.length)]) → E (.ref Cb) (some dd) H') ∧
  (canDo m es.length d = true → ∀ e, d = e.d → ∀ F' H', Gw [p, le, lb] F H F' H' → DeskAt C p le lb (step m e) (es ++ [d]) F' H' → Q .non H')
theorem desk_raw {p le lb : Addr} {m : Md} {es : List PyData} {F H : Hp} (d : DeskAt C p le lb m es F H) : p ≠ le ∧ p ≠ lb := by
  obtain ⟨_, _, _, e1, _⟩ := d.ins
  obtain ⟨_, e2, _⟩ := d.ent
  obtain ⟨_, e3, _⟩ := d.bef
  refine ⟨fun z => ?_, fun z => ?_⟩
  · rw [z, e2] at e1; cases e1
  · rw [z, e3] at e1; cases e1
/-- the desk with other marks, rows, number, bound -/
theorem desk_put {p le lb dx pm pr : Addr} {m m' : Md} {es : List PyData} {F H : Hp} (d : DeskAt C p le lb m es F H) (h1 : Dt F (.ref pm) (.tuple (m'.marks.map .str))) (h2 : Dt F (.ref pr) (.tuple (m'.rows.map Row.d))) (h3 : m'.marks = [] ∨ NoDict F pm) :
    DeskAt C p le lb m' es F (upd H p (.ins C dx (fsD pm pr m'.num m'.k le lb))) := by
  obtain ⟨n1, n2⟩ := desk_raw d
  obtain ⟨vs, e2, h4⟩ := d.ent
  obtain ⟨bs, e3, h5⟩ := d.bef
  exact ⟨⟨dx, pm, pr, upd_same, h1, h2, h3⟩, ⟨vs, (upd_ne (Ne.symm n1)).trans e2, h4⟩, ⟨bs, (upd_ne (Ne.symm n2)).trans e3, h5⟩, d.fp, d.fe, d.fb, d.ne⟩
theorem ok_do (F : Dm K C "do" "Desk.do" s_do) (T : Txt K w mg C dl) (TB : BE.BeTxt P K mg Cb fI) (c_can_do : Ml P w K mg base C CX0 3 "can_do" (sp_can_do C)) : Ml P w K mg base C (L2.CX P w) 4 "do" (sp_do C Cb) := by
  refine ml_ofX T.cl F sc_do (fun vs H Q E h => ?_) (fun _ _ _ _ _ _ us hl => match us, hl with | [_, _], _ => rfl) fun f cdv A outer s H vs Q E hr h => ?_
  · obtain ⟨_, _, _, _, _, _, _, _, rfl, _⟩ := h
    rfl
  · obtain ⟨F, p, le, lb, m, es, v, d, rfl, sf, da, wf, hv, hd, qE, qN⟩ := h
    refine ⟨_, (pss_cons (ps_if (pt_not (pt_val (pe_ml c_can_do hr (by decide) (pv 0) (pa_cons (pv 1) pa_nil)))) (pss_one (ps_raise rfl (takes_of rfl rfl rfl rfl) (pmk_be TB hr (by exact (pa_cons (pe_callB call_len_seq (by rfl) T.len_ PySem.boot_len (pa_cons (pe_fldK K (pv 0) rfl) pa_nil)) pa_nil))))) pss_nil) (pss_cons (ps_expr (pe_bm PySem.F.plainAttrs_list PySem.F.slot_list_append PySem.F.type_list_append mt_append (pe_fldK K (pv 0) rfl) (pa_cons (pe_tup (pa_cons (pe_fldK K (pv 0) rfl) (pa_cons (pe_fldK K (pv 0) rfl) (pa_cons (pe_fldK K (pv 0) rfl) (pa_cons (pe_fldK K (pv 0) rfl) pa_nil))))) pa_nil))) (pss_cons (ps_expr (pe_bm PySem.F.plainAttrs_list PySem.F.slot_list_append PySem.F.type_list_append mt_append (pe_fldK K (pv 0) rfl) (pa_cons (pv 1) pa_nil))) (pss_one (ps_if (pt_cmpR op_eq (pe_ix (ix_tupK K) (pv 1) pe_int (fun _ _ => rfl)) pe_str (nomark _)) (pss_one (ps_fld (pv 0) (pe_op op_catF (pe_fldK K (pv 0) rfl) (pe_tupF (pa_cons (pe_ix (ix_tupK K) (pv 1) pe_int (fun _ _ => rfl)) pa_nil))) rfl)) (pss_one (ps_if (pt_cmpR op_eq (pe_ix (ix_tupK K) (pv 1) pe_int (fun _ _ => rfl)) pe_str (nomark _)) (pss_cons (ps_set (i := 2) sc_do.nd rfl (Or.inl rfl) (pe_tup (pa_cons (pe_bmT PySem.F.plainAttrs_tuple PySem.F.slot_tuple_index PySem.F.type_tuple_index mt_tup_index (pe_fldK K (pv 0) rfl) (pa_cons (pe_ix (ix_tupK K) (pv 1) pe_int (fun _ _ => rfl)) pa_nil)) (pa_cons (pe_bmT PySem.F.plainAttrs_tuple PySem.F.slot_tuple_index PySem.F.type_tuple_index mt_tup_index (pe_fldK K (pv 0) rfl) (pa_cons (pe_ix (ix_tupK K) (pv 1) pe_int (fun _ _ => rfl)) pa_nil)) (pa_cons (pe_ix (ix_tupK K) (pv 1) pe_int (fun _ _ => rfl)) pa_nil))))) (pss_cons (ps_fld (pv 0) (pe_op op_catA (pe_fldK K (pv 0) rfl) (pe_tup (pa_cons (pe_tup (pa_cons (pe_fldK K (pv 0) rfl) (pa_cons (pv 2) pa_nil))) pa_nil))) rfl) (pss_one (ps_fld (pv 0) (pe_op op_add (pe_fldK K (pv 0) rfl) pe_int) rfl)))) (pss_one (ps_if (pt_cmpR op_eq (pe_ix (ix_tupK K) (pv 1) pe_int (fun _ _ => rfl)) pe_str (nomark _)) (pss_one (ps_fld (pv 0) (pe_callTy call_tuple_of (by rfl) T.tuple_ boot_tuple (pa_cons (pe_lc (own := [("row", 3)]) (g := gName 3) rfl sc_do.nd (pi_tup (pe_fldK K (pv 0) rfl)) (blkOk_by (N := ["self", "deed", "reading", "row"]) (sc := defScope s_do) (by decide +kernel)) (fun _ _ _ _ _ => pg_name (i := 3) sc_do.nd rfl (Or.inl rfl)) (fun _ _ _ _ _ => pts_one (pt_cmpR op_ne (pe_ix (ix_tupK K) (pv 3) pe_int (fun _ _ => rfl)) (pe_ix (ix_tupK K) (pv 1) pe_int (fun _ _ => rfl)) (nomark _))) (fun _ _ _ _ _ => (pv 3))) pa_nil)) rfl)) (pss_one (ps_fld (pv 0) (pe_ix (ix_tupK K) (pv 1) pe_int (fun _ _ => rfl)) rfl))))))))))), ?_⟩
    have e : (start ["self", "deed", "reading", "row"] [.ref p, v]) = [some (.ref p), some v, none, none] := rfl
    rw [e]
    have hrows : m.rows.length ≤ 10000 := Nat.le_trans wf.few2 (by decide)
    have hI : ∀ F H, (deskW C p le lb m es).I F H → DeskAt C p le lb m es F H := fun _ _ z => z
    have hp : ∀ (mm : Str), (∀ {pm pr : Addr} {a b : Int}, (fsD pm pr a b le lb).lookup mm = none) → ∀ F H, (deskW C p le lb m es).I F H → ∃ dx fs, H p = some (.ins C dx fs) ∧ fs.lookup mm = none := fun mm hmm F H i => by
      obtain ⟨dx, pm, pr, e1, _⟩ := (hI F H i).ins
      exact ⟨dx, _, e1, hmm⟩
    have test : PrT (deskW C p le lb m es) (tNot (tTest (tMeth C "can_do" (sp_can_do C) [] E0 (tVar 0) (tCons (tVar 1) tNil)))) [some (.ref p), some v, none, none] F H (!canDo m es.length d) :=
      prt_not (prt_test (pr_meth (sg_can_do hI hrows hd) (pr_var rfl) (hp "can_do" lk_can_do) (pra_cons (pr_dt rfl hv) pra_nil)))
    refine q_when (W := deskW C p le lb m es) (F := F) (b := !canDo m es.length d) sf da test (fun hb F1 H1 g1 i1 => ?_) (fun hb F1 H1 g1 i1 => ?_)
    · have hc : canDo m es.length d = false := by simpa using hb
      show tMkBe Cb _ _ _ _
      refine pra_cons (pr_lenE T hI rfl) pra_nil F1 H1 (Gw.refl g1.fh) i1 _ fun F2 H2 vs g2 i2 s2 => ?_
      obtain ⟨x, r, rfl, hx, rfl⟩ := s2
      cases hx
      exact ⟨_, rfl, fun dd hdd => qE hc F2 _ dd ((g1.trans g2).fresh hdd) upd_same⟩
    · have hc : canDo m es.length d = true := by simpa using hb
      obtain ⟨e, rfl⟩ := deed_of hc
      have hcnt : es.length < 1000 := by
        unfold canDo at hc
        simp only [Bool.and_eq_true, decide_eq_true_eq] at hc
        exact hc.1.2
      -- self.before.append((self.marks, self.rows, self.next, self.k))
      refine q_appendE (W := deskW C p le lb m es) (F := F1) (l := lb) (a := .dt (.tuple [.tuple (m.marks.map .str), .tuple (m.rows.map Row.d), .int m.num, .int m.k])) g1.fh i1 (pr_before T hI rfl) (fun F H i => ?_)
        (pr_tup (prd_cons (pr_marks T hI rfl) (prd_cons (pr_rows T hI rfl) (prd_cons (pr_next T hI rfl) (prd_cons (pr_k T hI rfl) prd_nil)))) (by simp only [List.length]; omega)) fun F2 H2 bv bs g2 i2 _ hb2 => ?_
      · obtain ⟨bs, e3, h⟩ := (hI F H i).bef
        exact ⟨bs, e3, by omega⟩
      obtain ⟨n1, n2⟩ := desk_raw i2
      obtain ⟨dx, pm, pr, e1, h1, h2, h5⟩ := i2.ins
      obtain ⟨xs, e2, h3⟩ := i2.ent
      obtain ⟨bs', e3, h4⟩ := i2.bef
      have eb : bs = bs' := by rw [hb2] at e3; cases e3; rfl
      subst eb
      have g12 : Gw [p, le, lb] F H F2 (upd H2 lb (.lst (bs ++ [bv]))) := (g1.trans g2).pure.write i2.fb (.inr (by simp))
      have W2 : (rawW [(p, HO.ins C dx (fsD pm pr m.num m.k le lb)), (le, HO.lst xs), (lb, HO.lst (bs ++ [bv]))]).I F2 (upd H2 lb (.lst (bs ++ [bv]))) := fun q hq => by
        simp only [List.mem_cons, List.not_mem_nil, or_false] at hq
        rcases hq with rfl | rfl | rfl
        · exact ⟨(upd_ne n2).trans e1, i2.fp⟩
        · exact ⟨(upd_ne i2.ne).trans e2, i2.fe⟩
        · exact ⟨upd_same, i2.fb⟩
      -- self.entries.append(deed)
      refine q_appendE (W := rawW [(p, HO.ins C dx (fsD pm pr m.num m.k le lb)), (le, HO.lst xs), (lb, HO.lst (bs ++ [bv]))]) (F := F2) (l := le) (a := .dt e.d) g12.fh W2 (pr_fldR (dx := dx) (fs := fsD pm pr m.num m.k le lb) List.mem_cons_self T.cl T.nentries lk_entries rfl) (fun F H i => ⟨xs, (i (le, HO.lst xs) (by simp)).1, by rw [h3.len]; omega⟩) (pr_dt rfl (hv.mono g12.ff)) fun F3 H3 v3 ys g3 i3 s3 hy => ?_
      have ey : ys = xs := by
        have := (i3 (le, HO.lst xs) (by simp)).1
        rw [hy] at this
        cases this; rfl
      subst ey
      have ip := i3 (p, HO.ins C dx (fsD pm pr m.num m.k le lb)) (by simp)
      have ib := i3 (lb, HO.lst (bs ++ [bv])) (by simp)
      have il := i3 (le, HO.lst ys) (by simp)
      have da3 : DeskAt C p le lb m (es ++ [e.d]) F3 (upd H3 le (.lst (ys ++ [v3]))) := by
        refine ⟨⟨dx, pm, pr, (upd_ne n1).trans ip.1, h1.mono g3.ff, h2.mono g3.ff, h5.imp_right fun ⟨o, xs, e, n⟩ => ⟨o, xs, g3.ff _ _ e, n⟩⟩, ⟨_, upd_same, (h3.mono g3.ff).snoc s3⟩, ⟨_, (upd_ne (Ne.symm i2.ne)).trans ib.1, ?_⟩, ip.2, il.2, ib.2, i2.ne⟩
        rw [List.length_append, List.length_append]
        simp only [List.length_singleton]
        omega
      have g13 : Gw [p, le, lb] F H F3 (upd H3 le (.lst (ys ++ [v3]))) := (g12.trans g3.pure).write il.2 (.inr (by simp))
      generalize hH4 : upd H3 le (.lst (ys ++ [v3])) = H4 at da3 g13
      clear hH4
      have qF := qN hc e rfl
      have hI3 : ∀ F H, (deskW C p le lb m (es ++ [e.d])).I F H → DeskAt C p le lb m (es ++ [e.d]) F H := fun _ _ z => z
      have hv3 : Dt F3 v e.d := hv.mono g13.ff
      have it0 : ∀ {F1 H1 : Hp} {k : Str} {r : List PyData}, e.d = .tuple (.str k :: r) → Same F3 F1 → Pr (deskW C p le lb m (es ++ [e.d])) (tOp (rIxT K) (tVar 1) (tC (.int 0))) [some (.ref p), some v, none, none] F1 H1 (.dt (.str k)) := fun e g => by
        exact pr_ixT (n := 0) rfl rfl (pr_dt rfl (e ▸ hv3.mono g)) pr_int
      cases e with
      | mark s =>
        refine s_if (W := deskW C p le lb m (es ++ [(Deed.mark s).d])) (F := F3) (b := true) g13.fh da3 (prt_to (prt_test (pr_eqS (it0 rfl (Same.refl _)) pr_str)) (decide_eq_true rfl)) (fun _ F4 H4 g4 i4 => ?_) (fun hb => nomatch hb)
        have it1 : Pr (deskW C p le lb m (es ++ [(Deed.mark s).d])) (tOp (rIxT K) (tVar 1) (tC (.int 1))) [some (.ref p), some v, none, none] F4 H4 (.dt (.str s)) := pr_ixT (n := 1) rfl rfl (pr_dt rfl (hv3.mono g4.ff)) pr_int
        refine s_fld (W := deskW C p le lb m (es ++ [(Deed.mark s).d])) (F := F4) g4.fh i4 (pr_catF (by rw [List.length_map]; exact Nat.le_trans wf.few (by decide)) (pr_marks T hI3 rfl) it1) rfl T.cl T.nmarks fun F5 H5 v5 g5 i5 s5 => ?_
        obtain ⟨d5, a, rfl, nd⟩ := s5
        obtain ⟨dx, pm, pr, e1, h1, h2, h5⟩ := i5.ins
        refine ⟨dx, _, e1, by simp only [fsD, List.length]; omega, ?_⟩
        rw [pt_marks]
        refine qF F5 _ ((g13.trans (g4.trans g5).pure).write i5.fp (.inr (by simp))) (desk_put (m' := step m (.mark s)) i5 ?_ h2 (.inr nd))
        have e5 : (step m (.mark s)).marks.map PyData.str = m.marks.map PyData.str ++ [.str s] := by
          show (m.marks ++ [s]).map PyData.str = _
          rw [List.map_append]; rfl
        rw [e5]
        exact d5
      | read s t i =>
        refine s_if (W := deskW C p le lb m (es ++ [(Deed.read s t i).d])) (F := F3) (b := false) g13.fh da3 (prt_to (prt_test (pr_eqS (it0 rfl (Same.refl _)) pr_str)) (decide_eq_false n_rm)) (fun hb => nomatch hb) (fun _ F4 H4 g4 i4 => ?_)
        refine s_if (W := deskW C p le lb m (es ++ [(Deed.read s t i).d])) (F := F4) (b := true) g4.fh i4 (prt_to (prt_test (pr_eqS (it0 rfl g4.ff) pr_str)) (decide_eq_true rfl)) (fun _ F5 H5 g5 i5 => ?_) (fun hb => nomatch hb)
        have g45 := g4.trans g5
        rw [canDo_read] at hc
        simp only [canRead, Bool.and_eq_true, Bool.not_eq_true', decide_eq_true_eq, decide_eq_false_iff_not] at hc
        obtain ⟨_, ⟨⟨⟨⟨⟨_, _⟩, hs⟩, ht⟩, _⟩, _⟩, hl⟩ := hc
        obtain ⟨dx, pm, pr, e1, h1, h2, h5⟩ := i5.ins
        have nd : NoDict F5 pm := h5.resolve_left fun z => by rw [z] at hs; cases hs
        have W5 : (rawW [(p, HO.ins C dx (fsD pm pr m.num m.k le lb))]).I F5 H5 := fun q hq => by
          have : q = (p, HO.ins C dx (fsD pm pr m.num m.k le lb)) := by simpa using hq
          rw [this]; exact ⟨e1, i5.fp⟩
        have pmk : Pr (rawW [(p, HO.ins C dx (fsD pm pr m.num m.k le lb))]) (tFld K (tVar 0) "marks") [some (.ref p), some v, none, none] F5 H5 (.raw (.ref pm)) := pr_fldR (dx := dx) (fs := fsD pm pr m.num m.k le lb) List.mem_cons_self T.cl T.nmarks lk_marks rfl
        have j1 : Pr (rawW [(p, HO.ins C dx (fsD pm pr m.num m.k le lb))]) (tOp (rIxT K) (tVar 1) (tC (.int 1))) [some (.ref p), some v, none, none] F5 H5 (.dt (.str s)) := pr_ixT (n := 1) rfl rfl (pr_dt rfl (hv3.mono g45.ff)) pr_int
        have j2 : Pr (rawW [(p, HO.ins C dx (fsD pm pr m.num m.k le lb))]) (tOp (rIxT K) (tVar 1) (tC (.int 2))) [some (.ref p), some v, none, none] F5 H5 (.dt (.str t)) := pr_ixT (n := 2) rfl rfl (pr_dt rfl (hv3.mono g45.ff)) pr_int
        have j3 : Pr (rawW [(p, HO.ins C dx (fsD pm pr m.num m.k le lb))]) (tOp (rIxT K) (tVar 1) (tC (.int 3))) [some (.ref p), some v, none, none] F5 H5 (.dt (.int i)) := pr_ixT (n := 3) rfl rfl (pr_dt rfl (hv3.mono g45.ff)) pr_int
        refine q_set (W := rawW [(p, HO.ins C dx (fsD pm pr m.num m.k le lb))]) (F := F5) (a := .dt (Row.rd ⟨m.num, ixOf m.marks s, ixOf m.marks t, i⟩)) g5.fh W5 (pr_tup (prd_cons (pr_indexT hs nd h1 pmk j1) (prd_cons (pr_indexT ht nd h1 pmk j2) (prd_cons j3 prd_nil))) (by simp only [List.length]; omega)) fun F6 H6 v6 g6 _ s6 => ?_
        have i6 : (deskW C p le lb m (es ++ [(Deed.read s t i).d])).I F6 H6 := (deskW C p le lb m (es ++ [(Deed.read s t i).d])).st _ _ _ _ g6 i5
        refine q_fld (W := deskW C p le lb m (es ++ [(Deed.read s t i).d])) (F := F6) g6.fh i6 (pr_catT (es := [Row.d ⟨m.num, ixOf m.marks s, ixOf m.marks t, i⟩]) (by rw [List.length_map]; simp only [List.length]; omega) (pr_rows T hI3 rfl) (pr_tup (prd_cons (pr_tup (prd_cons (pr_next T hI3 rfl) (prd_cons (pr_dt rfl s6) prd_nil)) (by simp only [List.length]; omega)) prd_nil) (by simp only [List.length]; omega))) rfl T.cl T.nrows fun F7 H7 v7 g7 i7 s7 => ?_
        obtain ⟨dx, pm, pr, e1, h1, h2, h5⟩ := i7.ins
        refine ⟨dx, _, e1, by simp only [fsD, List.length]; omega, ?_⟩
        obtain ⟨pr', rfl⟩ : ∃ a, v7 = .ref a := by cases s7; exact ⟨_, rfl⟩
        rw [pt_rows]
        have da7 : DeskAt C p le lb { m with rows := m.rows ++ [Row.mk m.num (ixOf m.marks s) (ixOf m.marks t) i] } (es ++ [(Deed.read s t i).d]) F7 (upd H7 p (.ins C dx (fsD pm pr' m.num m.k le lb))) := by
          refine desk_put (m' := { m with rows := m.rows ++ [Row.mk m.num (ixOf m.marks s) (ixOf m.marks t) i] }) i7 h1 ?_ h5
          have e5 : (m.rows ++ [Row.mk m.num (ixOf m.marks s) (ixOf m.marks t) i]).map Row.d = m.rows.map Row.d ++ [Row.d ⟨m.num, ixOf m.marks s, ixOf m.marks t, i⟩] := by
            rw [List.map_append]; rfl
          show Dt F7 (.ref pr') (.tuple ((m.rows ++ [Row.mk m.num (ixOf m.marks s) (ixOf m.marks t) i]).map Row.d))
          rw [e5]
          exact s7
        have g17 : Gw [p, le, lb] F H F7 (upd H7 p (.ins C dx (fsD pm pr' m.num m.k le lb))) := (g13.trans ((g45.trans g6).trans g7).pure).write i7.fp (.inr (by simp))
        refine s_fld (W := deskW C p le lb { m with rows := m.rows ++ [Row.mk m.num (ixOf m.marks s) (ixOf m.marks t) i] } (es ++ [(Deed.read s t i).d])) (F := F7) (a := .dt (.int ((m.num : Int) + 1))) g17.fh da7 (pr_add (pr_next (m := { m with rows := m.rows ++ [Row.mk m.num (ixOf m.marks s) (ixOf m.marks t) i] }) T (fun _ _ z => z) rfl) pr_int) rfl T.cl T.nnext fun F8 H8 v8 g8 i8 s8 => ?_
        obtain ⟨dx, pm, pr, e1, h1, h2, h5⟩ := DeskAt.ins i8
        refine ⟨dx, _, e1, by simp only [fsD, List.length]; omega, ?_⟩
        cases s8
        rw [pt_next]
        exact qF F8 _ ((g17.trans g8.pure).write (DeskAt.fp i8) (.inr (by simp))) (desk_put (m' := step m (.read s t i)) i8 h1 h2 h5)
      | drop n =>
        refine s_if (W := deskW C p le lb m (es ++ [(Deed.drop n).d])) (F := F3) (b := false) g13.fh da3 (prt_to (prt_test (pr_eqS (it0 rfl (Same.refl _)) pr_str)) (decide_eq_false n_dm)) (fun hb => nomatch hb) (fun _ F4 H4 g4 i4 => ?_)
        refine s_if (W := deskW C p le lb m (es ++ [(Deed.drop n).d])) (F := F4) (b := false) g4.fh i4 (prt_to (prt_test (pr_eqS (it0 rfl g4.ff) pr_str)) (decide_eq_false n_dr)) (fun hb => nomatch hb) (fun _ F5 H5 g5 i5 => ?_)
        refine s_if (W := deskW C p le lb m (es ++ [(Deed.drop n).d])) (F := F5) (b := true) g5.fh i5 (prt_to (prt_test (pr_eqS (it0 rfl (g4.trans g5).ff) pr_str)) (decide_eq_true rfl)) (fun _ F6 H6 g6 i6 => ?_) (fun hb => nomatch hb)
        have g46 := (g4.trans g5).trans g6
        have hcl := pr_lcT (W := deskW C p le lb m (es ++ [(Deed.drop n).d])) (K := K) (σ := [some (.ref p), some v, none, none]) (F := F6) (H := H6) (j := 3) (vs := [3]) (tt := tTest (tOp rNe (tOp (rIxT K) (tVar 3) (tC (.int 0))) (tOp (rIxT K) (tVar 1) (tC (.int 1))))) (te' := tVar 3)
          (fun d => match item 0 d with | .int k => !decide (k = n) | _ => false) (fun d => d) (pr_rows (i := 0) T hI3 rfl) (by rw [List.length_map]; exact hrows) (fun _ => rfl)
          (fun d hd F1 H1 w g _ hw => by
            obtain ⟨r, _, rfl⟩ := List.mem_map.mp hd
            exact prt_to (prt_test (pr_neI (i := (r.n : Int)) (j := n) (pr_ixT (n := 0) rfl rfl (pr_dt rfl hw) pr_int) (pr_ixT (n := 1) rfl rfl (pr_dt rfl (hv3.mono (g46.ff.trans g.ff))) pr_int))) rfl)
          (fun d hd F1 H1 w g _ hw _ => pr_dt rfl hw)
        refine s_fld (W := deskW C p le lb m (es ++ [(Deed.drop n).d])) (F := F6) g6.fh i6 (pr_tupleL hcl) rfl T.cl T.nrows fun F7 H7 v7 g7 i7 s7 => ?_
        obtain ⟨dx, pm, pr, e1, h1, h2, h5⟩ := i7.ins
        refine ⟨dx, _, e1, by simp only [fsD, List.length]; omega, ?_⟩
        obtain ⟨pr', rfl⟩ : ∃ a, v7 = .ref a := by cases s7; exact ⟨_, rfl⟩
        rw [pt_rows]
        refine qF F7 _ ((g13.trans (g46.trans g7).pure).write i7.fp (.inr (by simp))) (desk_put (m' := step m (.drop n)) i7 h1 ?_ h5)
        have e5 : (step m (.drop n)).rows.map Row.d = ((m.rows.map Row.d).filter fun d => match item 0 d with | .int k => !decide (k = n) | _ => false).map fun d => d := by
          show (m.rows.filter fun r => !decide ((r.n : Int) = n)).map Row.d = _
          rw [List.map_id', List.filter_map]
          rfl
        rw [e5]
        exact s7
      | bound k =>
        refine s_if (W := deskW C p le lb m (es ++ [(Deed.bound k).d])) (F := F3) (b := false) g13.fh da3 (prt_to (prt_test (pr_eqS (it0 rfl (Same.refl _)) pr_str)) (decide_eq_false n_bm)) (fun hb => nomatch hb) (fun _ F4 H4 g4 i4 => ?_)
        refine s_if (W := deskW C p le lb m (es ++ [(Deed.bound k).d])) (F := F4) (b := false) g4.fh i4 (prt_to (prt_test (pr_eqS (it0 rfl g4.ff) pr_str)) (decide_eq_false n_br)) (fun hb => nomatch hb) (fun _ F5 H5 g5 i5 => ?_)
        refine s_if (W := deskW C p le lb m (es ++ [(Deed.bound k).d])) (F := F5) (b := false) g5.fh i5 (prt_to (prt_test (pr_eqS (it0 rfl (g4.trans g5).ff) pr_str)) (decide_eq_false n_bd)) (fun hb => nomatch hb) (fun _ F6 H6 g6 i6 => ?_)
        have g46 := (g4.trans g5).trans g6
        refine s_fld (W := deskW C p le lb m (es ++ [(Deed.bound k).d])) (F := F6) (a := .dt (.int k)) g6.fh i6 (pr_ixT (n := 1) rfl rfl (pr_dt rfl (hv3.mono g46.ff)) pr_int) rfl T.cl T.nk fun F7 H7 v7 g7 i7 s7 => ?_
        obtain ⟨dx, pm, pr, e1, h1, h2, h5⟩ := i7.ins
        refine ⟨dx, _, e1, by simp only [fsD, List.length]; omega, ?_⟩
        cases s7
        rw [pt_k]
        exact qF F7 _ ((g13.trans (g46.trans g7).pure).write i7.fp (.inr (by simp))) (desk_put (m' := step m (.bound k)) i7 h1 h2 h5)
end
end K39
end

section
set_option Elab.async false
set_option linter.all false
set_option maxRecDepth 100000
set_option maxHeartbeats 4000000
namespace K39
open PySem PySem.Spec PyProof.Rows L2

/-- two worlds at once -/
def andW (W1 W2 : Wd) : Wd where
  M := W1.M ++ W2.M
  own := W1.own ++ W2.own
  I := fun F H => W1.I F H ∧ W2.I F H
  sub := fun x h => by
    rcases List.mem_append.mp h with h | h
    · exact List.mem_append_left _ (W1.sub x h)
    · exact List.mem_append_right _ (W2.sub x h)
  al := fun F H i x hx => by
    rcases List.mem_append.mp hx with h | h
    · exact W1.al F H i.1 x h
    · exact W2.al F H i.2 x h
  st' := fun F H F' H' sf ow i => ⟨W1.st' F H F' H' sf (fun x h => ow x (List.mem_append_left _ h)) i.1, W2.st' F H F' H' sf (fun x h => ow x (List.mem_append_right _ h)) i.2⟩
theorem raw1 {F H : Hp} {a : Addr} {o : HO} (h1 : H a = some o) (h2 : F a = none) : (rawW [(a, o)]).I F H := fun q hq => by
  have : q = (a, o) := by simpa using hq
  rw [this]; exact ⟨h1, h2⟩
section
variable {W : Wd} {σ : L2.St} {F H F1 H1 : Hp} {te ta tb tc to : TE} {tl tr : TA} {tt t u : TT} {a b c : Ar} {as : List Ar} {v w : V} {d e : PyData} {r : R2} {K : PySem.W.Frag} {D : Ends} {tu tw tz : TS}
theorem ix_nat {n j : Nat} (hj : j < n) : ixN n (j : Int) = some j := by
  have h : ixN n (j : Int) = if (0 : Int) ≤ (j : Int) then (if (j : Int) < (n : Int) then some (j : Int).toNat else none) else if -(n : Int) ≤ (j : Int) then some ((j : Int) + n).toNat else none := rfl
  rw [h, if_pos (Int.natCast_nonneg j), if_pos (by omega), Int.toNat_natCast]
theorem q_asg {g : TG} (h : te σ H fun x H1 => g x σ H1 fun σ' H' => tz D σ' H') : tSeq (tAsg te g) tz D σ H := h
theorem s_asg {g : TG} (h : te σ H fun x H1 => g x σ H1 D.nx) : tAsg te g D σ H := h
theorem q_setC {i : Nat} (h : tz D (σ.set i (some v)) H) : tSeq (tAsg (tC v) (gName i)) tz D σ H := h
theorem q_while {c : TT} {tb : TS} (h : ∃ W : Nat → L2.St → Hp → Prop, (∃ m, W m σ H) ∧ ∀ m σ H, W m σ H →
  c σ H fun b H1 => if b = true then ∃ N : L2.St → Hp → Prop, (∀ σ' H', N σ' H' → ∃ m', m' < m ∧ W m' σ' H') ∧ tb { D with nx := N, ct := N, bk := tz D } σ H1 else tz D σ H1) : tSeq (tWhile c tb) tz D σ H := h
/-- an item of a list that stands unfrozen -/
theorem pr_ixO {l : Addr} {xs : List V} {k n : Nat} {i : Nat} (hI : ∀ F H, W.I F H → H l = some (.lst xs)) (h : σ[i]? = some (some (.ref l))) (hn : xs[n]? = some v) (hb : Pr W tb σ F H (.dt (.int (n : Int)))) (hd : ∀ F, Dt F v d) : Pr W (tOp (rIxL K) (tVar i) tb) σ F H (.dt d) :=
  pr_op (pr_var h) hb fun F1 H1 x y sf iw hx hy Q q => by
    cases hy
    have ex : x = .ref l := hx
    subst ex
    exact ⟨l, xs, _, v, rfl, rfl, SqL.of (hI _ _ iw), at_of rfl hn, q F1 H1 v (Gw.refl sf) (hd _)⟩
theorem s_forT {g : TG} {items : List PyData} (sf : Same F H) (iw : W.I F H) (h : Pr W te σ F H (.dt (.tuple items)))
    (k : ∀ F1 H1, Gw W.M F H F1 H1 → W.I F1 H1 → ∃ Pv : Nat → L2.St → Hp → Prop, Pv 0 σ H1 ∧ (∀ i σ' H', Pv i σ' H' → Same F1 H') ∧
      (∀ i d x σ' H', items[i]? = some d → Dt F1 x d → Pv i σ' H' → g x σ' H' fun σ2 H2 => tu { D with nx := Pv (i + 1), ct := Pv (i + 1), bk := D.nx } σ2 H2) ∧ ∀ σ' H', Pv items.length σ' H' → D.nx σ' H') : tFor (iTup K te) g tu D σ H :=
  h F H (Gw.refl sf) iw _ fun F1 H1 v g1 i1 s1 => by
    obtain ⟨Pv, p0, p1, p2, p3⟩ := k F1 H1 g1 i1
    cases s1 with
    | @tup a xs _ h1 h2 =>
      refine ⟨a, rfl, ⟨xs, sqt_rd (rd_mono g1.fh h1)⟩, for_tup (K := K) (a := a) (xs := xs) Pv p0 (fun i σ' H' _ p => sqt_rd (rd_mono (p1 i σ' H' p) h1)) (fun i x σ' H' hx p => ?_) (by rw [h2.len]; exact p3)⟩
      obtain ⟨d, hd, dx⟩ := h2.get hx
      exact p2 i d x σ' H' hd dx p
/-- [e for x in range(n) if t], kept open -/
theorem lcR_open {te' : TE} {j : Nat} {vs : List Nat} {n : Nat} (p : Nat → Bool) (f : Nat → PyData) (sf : Same F H) (iw : W.I F H) (h : Pr W te σ F H (.dt (.int n))) (hl : n ≤ 10000) (hw : ∀ x, wipe ((wipe σ vs).set j (some x)) vs = wipe σ vs)
    (ht : ∀ k, k < n → ∀ F1 H1, Gw W.M F H F1 H1 → W.I F1 H1 → PrT W tt ((wipe σ vs).set j (some (.int (k : Int)))) F1 H1 (p k))
    (he : ∀ k, k < n → ∀ F1 H1, Gw W.M F H F1 H1 → W.I F1 H1 → p k = true → Pr W te' ((wipe σ vs).set j (some (.int (k : Int)))) F1 H1 (.dt (f k))) {Q : VK}
    (k : ∀ F2 H2 D acc, Gw W.M F H F2 H2 → W.I F2 H2 → H D = none → F2 D = none → H2 D = some (.lst acc) → DtA F2 acc (((List.range n).filter p).map f) → Q (.ref D) H2) :
    tLc (iRng1 (tCons te tNil)) (gName j) tt te' vs σ H Q :=
  h F H (Gw.refl sf) iw _ fun F2 H2 v g2 i2 s2 => by
    cases s2
    refine ⟨(n : Int), rfl, by omega, by omega, fun D hD => lc_range (lo := 0) (n := (n : Int).toNat) (fun i H' => ∃ Fi, Lc W F2 H2 D (((List.range i).filter p).map f) Fi H') ⟨F2, lc_start g2.fh i2 hD⟩ ?_ ?_⟩
    · rintro i H' hi ⟨Fi, z⟩
      have hin : i < n := by omega
      have g3 : Gw W.M F H Fi H' := g2.trans z.gw
      have e0 : (0 : Int) + (i : Int) = (i : Int) := Int.zero_add _
      rw [e0]
      refine ⟨hw _, lc_turn (d := f i) (k := p i) hD i2 z ?_ (ht i hin Fi H' g3 z.iw) (fun c => he i hin Fi H' g3 z.iw c) fun F3 H3 z3 => ⟨F3, ?_⟩⟩
      · rw [List.length_map]
        exact Nat.le_trans (List.length_filter_le _ _) (by rw [List.length_range]; omega)
      · rw [range_snoc]
        exact z3
    · rintro H' ⟨Fi, z⟩
      have e : (n : Int).toNat = n := Int.toNat_natCast n
      rw [e] at z
      obtain ⟨acc, ha, hacc⟩ := z.at_
      exact k Fi H' D acc (g2.trans z.gw) z.iw (g2.back hD) z.fn ha hacc
end

section
variable {P : Program} {w : World} {K : PySem.W.Frag} {mg : Str → Option Value} {base : Heap} {C dl Cb fI : Addr}
def esOf (rows : List Row) : List (Nat × Nat) := rows.map fun r => (r.a, r.b)

/-! ### reached -/
-- slots: 0 many, 1 readings, 2 start (cell), 3 there (cell), 4 mark, 5 changed, 6 one, 7 other, 8 _
abbrev s_reached : Stmt := top 7
theorem sc_reached : FnScope ["many", "readings", "start", "there", "mark", "changed", "one", "other", "_"] ["many", "readings", "start"] (defScope s_reached) := ⟨rfl, rfl, rfl, by decide +kernel, rfl, by decide +kernel, by decide +kernel⟩
def sp_reached : Sp := fun vs H Q _ => ∃ (F : Hp) (n i : Nat) (rows : List Row) (v : V), vs = [.int n, v, .int i] ∧ Same F H ∧ Dt F v (.tuple (rows.map Row.rd)) ∧ (∀ r ∈ rows, r.a < n ∧ r.b < n) ∧ i < n ∧ n ≤ 1000 ∧
  ∀ F' H' v, Gw [] F H F' H' → Dt F' v (.tuple ((cls (groups n (esOf rows)) n i).map fun k : Nat => .int (k : Int))) → Q v H'
theorem sg_reached {W : Wd} {n i : Nat} {rows : List Row} (hb : ∀ r ∈ rows, r.a < n ∧ r.b < n) (hi : i < n) (hn : n ≤ 1000) : Sg W sp_reached [.dt (.int n), .dt (.tuple (rows.map Row.rd)), .dt (.int i)] (.dt (.tuple ((cls (groups n (esOf rows)) n i).map fun k : Nat => .int (k : Int)))) := fun F H vs sf iw ha Q E q => by
  obtain ⟨v1, r, rfl, h1, v2, r', rfl, h2, v3, r3, rfl, h3, rfl⟩ := ha
  cases h1
  cases h3
  exact ⟨F, n, i, rows, v2, rfl, sf, h2, hb, hi, hn, fun F' H' v g hv => q F' H' v g.pure (W.st _ _ _ _ g iw) hv⟩
theorem set_bl (t : List Bool) (k : Nat) : (t.map V.bl).set k (.bl true) = (t.set k true).map V.bl := by rw [List.map_set]
theorem get_bl {t : List Bool} {k : Nat} (h : k < t.length) : (t.map V.bl)[k]? = some (.bl (t.getD k false)) := by
  rw [List.getElem?_map, List.getD_eq_getElem?_getD, List.getElem?_eq_getElem h]; rfl
theorem ok_reached (F : Df K mg "reached" s_reached) (T : Txt K w mg C dl) : Cl P w K mg base CX0 1 "reached" sp_reached := by
  refine cl_of F sc_reached (fun vs H Q E h => ?_) (fun _ _ _ _ _ _ us hl => match us, hl with | [_, _, _], _ => rfl) fun f cdv A outer s H vs Q E hr h => ?_
  · obtain ⟨_, _, _, _, _, rfl, _⟩ := h
    rfl
  · obtain ⟨F, n, i, rows, v, rfl, sf, hv, hb, hi, hn, q⟩ := h
    refine ⟨_, (pss_cons (ps_set (i := 3) sc_reached.nd rfl (Or.inr rfl) (pe_lc (own := [("mark", 4)]) (g := gName 4) rfl sc_reached.nd (pi_range1 (by rfl) T.range (pa_cons (pv 0) pa_nil)) (blkOk_by (N := ["many", "readings", "start", "there", "mark", "changed", "one", "other", "_"]) (sc := defScope s_reached) (by decide +kernel)) (fun _ _ _ _ _ => pg_name (i := 4) sc_reached.nd rfl (Or.inl rfl)) (fun _ _ _ _ _ => pts_nil) (fun _ _ _ _ _ => (pe_cmpR op_eq (pv 4) (pv 2) (nomark _))))) (pss_cons (ps_set (i := 5) sc_reached.nd rfl (Or.inl rfl) pe_bl) (pss_cons (ps_while PassesOwn.never (pt_val (pv 5)) (pss_cons (ps_set (i := 5) sc_reached.nd rfl (Or.inl rfl) pe_bl) (pss_one (ps_for PassesOwn.never rfl (pi_tup (pv 1)) (pg_tup rfl (pgs_cons (pg_name (i := 6) sc_reached.nd rfl (Or.inl rfl)) (pgs_cons (pg_name (i := 7) sc_reached.nd rfl (Or.inl rfl)) (pgs_cons (pg_name (i := 8) sc_reached.nd rfl (Or.inl rfl)) pgs_nil)))) (pss_one (ps_if (pt_cmpR op_ne (pe_ix (ix_listK K) (pv 3) (pv 6) (fun _ _ => rfl)) (pe_ix (ix_listK K) (pv 3) (pv 7) (fun _ _ => rfl)) (nomark _)) (pss_cons (ps_asg pe_bl (pg_sub (pv 3) (pv 6) set_list)) (pss_cons (ps_asg pe_bl (pg_sub (pv 3) (pv 7) set_list)) (pss_one (ps_set (i := 5) sc_reached.nd rfl (Or.inl rfl) pe_bl)))) pss_nil)))))) (pss_one (ps_ret (pe_callTy call_tuple_of (by rfl) T.tuple_ boot_tuple (pa_cons (pe_lc (own := [("mark", 4)]) (g := gName 4) rfl sc_reached.nd (pi_range1 (by rfl) T.range (pa_cons (pv 0) pa_nil)) (blkOk_by (N := ["many", "readings", "start", "there", "mark", "changed", "one", "other", "_"]) (sc := defScope s_reached) (by decide +kernel)) (fun _ _ _ _ _ => pg_name (i := 4) sc_reached.nd rfl (Or.inl rfl)) (fun _ _ _ _ _ => pts_one (pt_val (pe_ix (ix_listK K) (pv 3) (pv 4) (fun _ _ => rfl)))) (fun _ _ _ _ _ => (pv 4))) pa_nil))))))), ?_⟩
    have e : (start ["many", "readings", "start", "there", "mark", "changed", "one", "other", "_"] [.int n, v, .int i]) = [some (.int n), some v, some (.int i), none, none, none, none, none, none] := rfl
    rw [e]
    have hbe : ∀ p ∈ esOf rows, p.1 < n ∧ p.2 < n := fun p hp => by
      obtain ⟨r, hr, rfl⟩ := List.mem_map.mp hp
      exact hb r hr
    -- there = [mark == start for mark in range(many)]
    refine q_asg ?_
    refine lcR_open (W := w0) (σ := [some (.int n), some v, some (.int i), none, none, none, none, none, none]) (j := 4) (vs := [4]) (F := F) (n := n) (fun _ => true) (fun k => .bool (decide ((k : Int) = (i : Int)))) sf True.intro (pr_dt (i := 0) rfl (.int _)) (by omega) (fun _ => rfl) (fun k hk F1 H1 g _ => prt_yes) (fun k hk F1 H1 g _ _ => pr_eqI (pr_dt (i := 4) rfl (.int _)) (pr_dt (i := 2) rfl (.int _))) fun F1 H1 D acc g1 _ hD0 fD hD hacc => ?_
    have eacc : acc = ((List.range n).map fun j => decide (j = i)).map V.bl := by
      have e1 : (((List.range n).filter fun _ => true).map fun k : Nat => PyData.bool (decide ((k : Int) = (i : Int)))) = ((List.range n).map fun j => decide (j = i)).map PyData.bool := by
        rw [List.filter_eq_self.mpr (fun _ _ => rfl), List.map_map]
        refine List.map_congr_left fun j _ => ?_
        show PyData.bool (decide ((j : Int) = (i : Int))) = PyData.bool (decide (j = i))
        rw [decide_eq_decide.mpr (by omega : ((j : Int) = (i : Int)) ↔ j = i)]
      rw [e1] at hacc
      exact hacc.bools
    subst eacc
    -- changed = True; while changed
    refine q_setC (q_while ⟨fun m σ' H' => ∃ (F' : Hp) (t : List Bool) (c : Bool) (o4 o6 o7 o8 : Option V), σ' = [some (.int n), some v, some (.int i), some (.ref D), o4, some (.bl c), o6, o7, o8] ∧ Gw [] F H F' H' ∧ F' D = none ∧ H' D = some (.lst (t.map V.bl)) ∧ Found (esOf rows) n i t ∧
      (c = false → ∀ p ∈ esOf rows, t.getD p.1 false = t.getD p.2 false) ∧ m = lack t + (if c = true then 1 else 0), ⟨_, F1, _, true, none, none, none, none, rfl, g1, fD, hD, found_start hi, (fun z => nomatch z), rfl⟩, ?_⟩)
    rintro m σ' H' ⟨F', t, c, o4, o6, o7, o8, rfl, g', fD', hD', fnd, hc, rfl⟩
    refine ⟨_, rfl, c, rfl, ?_⟩
    cases c with
    | false =>
      -- the end
      have ht := hc rfl
      refine s_ret (W := rawW [(D, .lst (t.map V.bl))]) (F := F') (a := .dt (.tuple (((List.range n).filter fun k => t.getD k false).map fun k : Nat => .int (k : Int)))) g'.fh (raw1 hD' fD') (pr_tupleL (pr_lcR (n := n) (fun k => t.getD k false) (fun k : Nat => .int (k : Int)) (pr_dt rfl (.int _)) (by omega) (fun _ => rfl)
        (fun k hk F2 H2 g _ => prt_B (pr_ixO (n := k) (k := k) (fun F H i => (i _ List.mem_cons_self).1) rfl (get_bl (by rw [fnd.len]; exact hk)) (pr_dt rfl (.int _)) fun _ => .bl _)) (fun k hk F2 H2 g _ _ => pr_dt rfl (.int _)))) fun F2 H2 v2 g2 _ s2 => ?_
      rw [found_iff fnd ht hbe hi] at s2
      exact q F2 H2 v2 (g'.trans g2) s2
    | true =>
      refine ⟨fun σ2 H2 => ∃ m', m' < lack t + 1 ∧ _, fun _ _ z => z, ?_⟩
      refine q_setC ?_
      refine s_forT (W := w0) (F := F') (items := rows.map Row.rd) g'.fh True.intro (pr_dt rfl (hv.mono g'.ff)) fun F1 H1 g1 _ => ⟨fun j σ2 H2 => ∃ (F2 : Hp) (t2 : List Bool) (c2 : Bool) (o6 o7 o8 : Option V), σ2 = [some (.int n), some v, some (.int i), some (.ref D), o4, some (.bl c2), o6, o7, o8] ∧ Gw [] F H F2 H2 ∧ Same F1 F2 ∧ F2 D = none ∧
        H2 D = some (.lst (t2.map V.bl)) ∧ Found (esOf rows) n i t2 ∧ (c2 = false → t2 = t ∧ ∀ p ∈ (esOf rows).take j, t.getD p.1 false = t.getD p.2 false) ∧ (c2 = true → lack t2 < lack t),
        ⟨F1, t, false, o6, o7, o8, rfl, g'.trans g1, Same.refl _, g1.fnone (nn hD') fD', g1.keep0 hD', fnd, fun _ => ⟨rfl, fun p hp => by rw [List.take_zero] at hp; cases hp⟩, (fun z => nomatch z)⟩, ?_, ?_, ?_⟩
      · rintro j σ2 H2 ⟨F2, t2, c2, _, _, _, _, g2, f2, _⟩
        exact f2.trans g2.fh
      · rintro j d x σ2 H2 hd hx ⟨F2, t2, c2, p6, p7, p8, rfl, g2, f2, fD2, hD2, fnd2, hc2, hc3⟩
        rw [List.getElem?_map] at hd
        obtain ⟨r, hr, rfl⟩ := Option.map_eq_some_iff.mp hd
        have hrm := List.mem_of_getElem? hr
        obtain ⟨ha, hb2⟩ := hb r hrm
        have hpr : (r.a, r.b) ∈ esOf rows := List.mem_map.mpr ⟨r, hrm, rfl⟩
        have htk : (esOf rows).take (j + 1) = (esOf rows).take j ++ [(r.a, r.b)] := by
          rw [List.take_succ]
          unfold esOf
          rw [List.getElem?_map, hr]; rfl
        cases hx with
        | @tup a xs _ h1 h2 =>
          cases h2 with
          | cons q1 h2 =>
          cases h2 with
          | cons q2 h2 =>
          cases h2 with
          | cons q3 h2 =>
          cases h2
          cases q1
          cases q2
          cases q3
          refine ⟨a, _, rfl, sqt_rd (rd_mono (f2.trans g2.fh) h1), rfl, _, _, rfl, _, _, rfl, _, _, rfl, rfl, ?_⟩
          have la : r.a < t2.length := by rw [fnd2.len]; exact ha
          have lb : r.b < t2.length := by rw [fnd2.len]; exact hb2
          refine s_when (W := rawW [(D, .lst (t2.map V.bl))]) (F := F2) (b := !decide (t2.getD r.a false = t2.getD r.b false)) g2.fh (raw1 hD2 fD2) (prt_test (pr_neB (pr_ixO (k := r.a) (fun F H i => (i _ List.mem_cons_self).1) rfl (get_bl la) (pr_dt rfl (.int _)) fun _ => .bl _) (pr_ixO (k := r.b) (fun F H i => (i _ List.mem_cons_self).1) rfl (get_bl lb) (pr_dt rfl (.int _)) fun _ => .bl _)))
            (fun hb3 F3 H3 g3 i3 => ?_) (fun hb3 F3 H3 g3 i3 => ?_)
          · have hne : ¬ t2.getD r.a false = t2.getD r.b false := by
              have := hb3
              rw [Bool.not_eq_true'] at this
              exact of_decide_eq_false this
            have hD3 := (i3 _ List.mem_cons_self)
            have lm : ∀ k, k < t2.length → ixN (t2.map V.bl).length (k : Int) = some k := fun k hk => ix_nat (by rw [List.length_map]; exact hk)
            refine ⟨_, rfl, _, rfl, D, _, (r.a : Int), r.a, rfl, rfl, hD3.1, lm _ la, ?_⟩
            refine ⟨_, rfl, _, rfl, D, _, (r.b : Int), r.b, rfl, rfl, upd_same, by rw [List.length_set]; exact lm _ lb, ?_⟩
            rw [set_bl, set_bl]
            refine ⟨F3, (t2.set r.a true).set r.b true, true, _, _, _, rfl, ((g2.trans g3).write hD3.2 (.inl hD0)).write hD3.2 (.inl hD0), f2.trans g3.ff, hD3.2, upd_same, found_sweep (p := (r.a, r.b)) hpr ha hb2 fnd2 hne, (fun z => nomatch z), fun _ => ?_⟩
            have l1 := lack_sweep (p := (r.a, r.b)) la lb hne
            cases c2 with
            | false => rw [(hc2 rfl).1] at l1 ⊢; exact l1
            | true => exact Nat.lt_trans l1 (hc3 rfl)
          · have heq : t2.getD r.a false = t2.getD r.b false := by
              have := hb3
              rw [Bool.not_eq_false'] at this
              exact of_decide_eq_true this
            have hD3 := (i3 _ List.mem_cons_self)
            refine ⟨F3, t2, c2, _, _, _, rfl, g2.trans g3, f2.trans g3.ff, hD3.2, hD3.1, fnd2, fun z => ⟨(hc2 z).1, fun p hp => ?_⟩, hc3⟩
            rw [htk] at hp
            rcases List.mem_append.mp hp with hp | hp
            · exact (hc2 z).2 p hp
            · have : p = (r.a, r.b) := by simpa using hp
              rw [this, ← (hc2 z).1]
              exact heq
      · rintro σ2 H2 ⟨F2, t2, c2, p6, p7, p8, rfl, g2, f2, fD2, hD2, fnd2, hc2, hc3⟩
        have etk : (esOf rows).take (rows.map Row.rd).length = esOf rows := List.take_of_length_le (by unfold esOf; rw [List.length_map, List.length_map]; exact Nat.le_refl _)
        rw [etk] at hc2
        refine ⟨lack t2 + (if c2 = true then 1 else 0), ?_, F2, t2, c2, o4, p6, p7, p8, rfl, g2, fD2, hD2, fnd2, fun z => ?_, rfl⟩
        · cases c2 with
          | false => rw [(hc2 rfl).1]; simp
          | true =>
            have := hc3 rfl
            simp only [if_true]
            omega
        · rw [(hc2 z).1]
          exact (hc2 z).2
end
end K39
end

section
set_option Elab.async false
set_option linter.all false
set_option maxRecDepth 100000
set_option maxHeartbeats 4000000
namespace K39
open PySem PySem.Spec PyProof.Rows L2

section
variable {P : Program} {w : World} {K : PySem.W.Frag} {mg : Str → Option Value} {base : Heap} {C dl Cb fI : Addr}

/-! ### parts -/
-- slots: 0 self (cell), 1 found, 2 seen, 3 mark, 4 part, 5 k
abbrev s_parts : Stmt := inClass (top 19) 12
theorem sc_parts : FnScope ["self", "found", "seen", "mark", "part", "k"] ["self"] (defScope s_parts) := ⟨rfl, rfl, rfl, by decide +kernel, rfl, by decide +kernel, by decide +kernel⟩
def strsD (l : List Str) : PyData := .tuple (l.map .str)
def grp (m : Md) : List Nat := groups m.marks.length (esOf m.rows)
def partsD (m : Md) : PyData := .tuple ((partsTo m.marks (grp m) m.marks.length m.marks.length).map strsD)
def sp_parts (C : Addr) : Sp := fun vs H Q _ => ∃ (F : Hp) (p le lb : Addr) (m : Md) (es : List PyData), vs = [.ref p] ∧ Same F H ∧ DeskAt C p le lb m es F H ∧ Wf m ∧ ∀ F' H' v, Gw [] F H F' H' → Dt F' v (partsD m) → Q v H'
theorem sg_parts {W : Wd} {p le lb : Addr} {m : Md} {es : List PyData} (hI : ∀ F H, W.I F H → DeskAt C p le lb m es F H) (hm : Wf m) : Sg W (sp_parts C) [.raw (.ref p)] (.dt (partsD m)) := fun F H vs sf i ha Q E q => by
  obtain ⟨v, r, rfl, rfl, rfl⟩ := ha
  exact ⟨F, p, le, lb, m, es, rfl, sf, hI F H i, hm, fun F' H' v g hv => q F' H' v g.pure (W.st _ _ _ _ g i) hv⟩
def natsD (l : List Nat) : List PyData := (l.map fun k : Nat => (k : Int)).map .int
theorem ok_parts (F : Dm K C "parts" "Desk.parts" s_parts) (T : Txt K w mg C dl) (c_readings : Ml P w K mg base C CX0 1 "readings" (sp_rd C rdsD)) (c_reached : Cl P w K mg base CX0 1 "reached" sp_reached) : Ml P w K mg base C CX0 2 "parts" (sp_parts C) := by
  refine ml_of T.cl F sc_parts (fun vs H Q E h => ?_) (fun _ _ _ _ _ _ us hl => match us, hl with | [_], _ => rfl) fun f cdv A outer s H vs Q E hr h => ?_
  · obtain ⟨_, _, _, _, _, _, rfl, _⟩ := h
    rfl
  · obtain ⟨F, p, le, lb, m, es, rfl, sf, da, wf, q⟩ := h
    refine ⟨_, (pss_cons (ps_set (i := 1) sc_parts.nd rfl (Or.inl rfl) (pe_lst pa_nil)) (pss_cons (ps_set (i := 2) sc_parts.nd rfl (Or.inl rfl) (pe_lst pa_nil)) (pss_cons (ps_for PassesOwn.never rfl (pi_range1 (by rfl) T.range (pa_cons (pe_callB call_len_seq (by rfl) T.len_ PySem.boot_len (pa_cons (pe_fldK K (pv 0) rfl) pa_nil)) pa_nil)) (pg_name (i := 3) sc_parts.nd rfl (Or.inl rfl)) (pss_one (ps_if (pt_cmpR op_notIn_seq (pv 3) (pv 2) (by rfl)) (pss_cons (ps_set (i := 4) sc_parts.nd rfl (Or.inl rfl) (pe_cl c_reached hr (by decide) rfl (pa_cons (pe_callB call_len_seq (by rfl) T.len_ PySem.boot_len (pa_cons (pe_fldK K (pv 0) rfl) pa_nil)) (pa_cons (pe_ml0 c_readings hr (by decide) (pv 0)) (pa_cons (pv 3) pa_nil))))) (pss_cons (ps_set (i := 2) sc_parts.nd rfl (Or.inl rfl) (pe_op op_cat (pv 2) (pe_callTy call_list_of (by rfl) T.list_ boot_list (pa_cons (pv 4) pa_nil)))) (pss_one (ps_expr (pe_bm PySem.F.plainAttrs_list PySem.F.slot_list_append PySem.F.type_list_append mt_append (pv 1) (pa_cons (pe_callTy call_tuple_of (by rfl) T.tuple_ boot_tuple (pa_cons (pe_lc (own := [("k", 5)]) (g := gName 5) rfl sc_parts.nd (pi_tup (pv 4)) (blkOk_by (N := ["self", "found", "seen", "mark", "part", "k"]) (sc := defScope s_parts) (by decide +kernel)) (fun _ _ _ _ _ => pg_name (i := 5) sc_parts.nd rfl (Or.inl rfl)) (fun _ _ _ _ _ => pts_nil) (fun _ _ _ _ _ => (pe_ix (ix_tupK K) (pe_fldK K (pv 0) rfl) (pv 5) (fun _ _ => rfl)))) pa_nil)) pa_nil)))))) pss_nil))) (pss_one (ps_ret (pe_callTy call_tuple_of (by rfl) T.tuple_ boot_tuple (pa_cons (pv 1) pa_nil))))))), ?_⟩
    have e : (start ["self", "found", "seen", "mark", "part", "k"] [.ref p]) = [some (.ref p), none, none, none, none, none] := rfl
    rw [e]
    have hrows : m.rows.length ≤ 10000 := Nat.le_trans wf.few2 (by decide)
    have few := wf.few
    -- found = []
    refine q_asg ⟨Nat.zero_le _, fun l1 hl1 => ?_⟩
    have g0 : Gw [] F H F (upd H l1 (.lst [])) := (Gw.refl sf).fresh hl1
    have da0 : DeskAt C p le lb m es F (upd H l1 (.lst [])) := (deskW C p le lb m es).st _ _ _ _ g0 da
    -- seen = []
    refine q_set (W := andW (deskW C p le lb m es) (rawW [(l1, .lst [])])) (F := F) (a := .dt (.list [])) g0.fh ⟨da0, raw1 upd_same (same_fnone sf hl1)⟩ (pr_lst prd_nil (Nat.zero_le _)) fun F1 H1 v1 g1 i1 s1 => ?_
    refine q_forR (W := deskW C p le lb m es) (F := F1) (n := m.marks.length) g1.fh i1.1 (pr_to (pr_lenT (pr_marks T (fun _ _ z => z) rfl)) (by rw [List.length_map])) (by omega)
      (fun i σ' H' => ∃ (F' : Hp) (xs : List V) (v2 : V) (o3 o4 : Option V), σ' = [some (.ref p), some (.ref l1), some v2, o3, o4, none] ∧ Gw [] F H F' H' ∧ F' l1 = none ∧ H' l1 = some (.lst xs) ∧ DtA F' xs ((seenTo m.marks (grp m) m.marks.length i).2.map strsD) ∧
        Dt F' v2 (.list (natsD (seenTo m.marks (grp m) m.marks.length i).1))) (fun F2 H2 g2 i2 => ?_) (fun i σ' H' hi h => ?_) (fun σ' H' h => ?_)
    · have hl := (i1.2 _ List.mem_cons_self)
      exact ⟨F2, [], v1, none, none, rfl, (g0.trans g1).trans g2, g2.fnone (nn hl.1) hl.2, g2.keep0 hl.1, .nil, Dt.mono g2.ff s1⟩
    · obtain ⟨F', xs, v2, o3, o4, rfl, g, fl, hl, hx, hs⟩ := h
      have daF : DeskAt C p le lb m es F' H' := (deskW C p le lb m es).st _ _ _ _ g da
      refine (?_ : tIfS _ _ _ _ [some (.ref p), some (.ref l1), some v2, some (.int (i : Int)), o4, none] H')
      have hdec : (!decide ((i : Int) ∈ (seenTo m.marks (grp m) m.marks.length i).1.map fun k : Nat => (k : Int))) = !decide (i ∈ (seenTo m.marks (grp m) m.marks.length i).1) := by
        congr 1
        refine decide_eq_decide.mpr ⟨fun h => ?_, fun h => List.mem_map.mpr ⟨i, h, rfl⟩⟩
        obtain ⟨k, hk, e⟩ := List.mem_map.mp h
        have : k = i := by omega
        exact this ▸ hk
      refine s_when (W := andW (deskW C p le lb m es) (rawW [(l1, .lst xs)])) (F := F') (b := !decide (i ∈ (seenTo m.marks (grp m) m.marks.length i).1)) g.fh ⟨daF, raw1 hl fl⟩ (prt_to (prt_test (pr_notInI (pr_dt rfl (.int _)) (pr_dt rfl hs))) hdec) (fun hb F2 H2 g2 i2 => ?_) (fun hb F2 H2 g2 i2 => ?_)
      · have hI : ∀ F H, (andW (deskW C p le lb m es) (rawW [(l1, .lst xs)])).I F H → DeskAt C p le lb m es F H := fun _ _ z => z.1
        have hp : ∀ (mm : Str), (∀ {pm pr : Addr} {a b : Int}, (fsD pm pr a b le lb).lookup mm = none) → ∀ F H, (andW (deskW C p le lb m es) (rawW [(l1, .lst xs)])).I F H → ∃ dx fs, H p = some (.ins C dx fs) ∧ fs.lookup mm = none := fun mm hmm F H i => by
          obtain ⟨dx, pm, pr, e1, _⟩ := (hI F H i).ins
          exact ⟨dx, _, e1, hmm⟩
        have hni : ¬ i ∈ (seenTo m.marks (grp m) m.marks.length i).1 := by
          rw [Bool.not_eq_true'] at hb
          exact of_decide_eq_false hb
        have eS : seenTo m.marks (grp m) m.marks.length (i + 1) = ((seenTo m.marks (grp m) m.marks.length i).1 ++ cls (grp m) m.marks.length i, (seenTo m.marks (grp m) m.marks.length i).2 ++ [namesOf m.marks (cls (grp m) m.marks.length i)]) := by
          show (if i ∈ (seenTo m.marks (grp m) m.marks.length i).1 then _ else _) = _
          rw [if_neg hni]
        have hcl : (cls (grp m) m.marks.length i).length ≤ m.marks.length := by
          have := List.length_filter_le (fun j => decide ((grp m).getD j 0 = (grp m).getD i 0)) (List.range m.marks.length)
          rw [List.length_range] at this
          exact this
        have hsl := seenTo_len m.marks (grp m) m.marks.length i
        have himul : i * m.marks.length ≤ 16 * 16 := Nat.mul_le_mul (by omega) few
        -- part = reached(len(self.marks), self.readings(), mark)
        refine q_set (W := andW (deskW C p le lb m es) (rawW [(l1, .lst xs)])) (F := F2) (a := .dt (.tuple ((cls (grp m) m.marks.length i).map fun k : Nat => .int (k : Int)))) g2.fh i2
          (pr_call (sg_reached (rows := m.rows) wf.ends hi (by omega)) (pra_cons (pr_to (pr_lenT (pr_marks T hI rfl)) (by rw [List.length_map])) (pra_cons (pr_meth (sg_rd (f := rdsD) hI hrows) (pr_var rfl) (hp "readings" lk_readings) pra_nil) (pra_cons (pr_dt rfl (.int _)) pra_nil)))) fun F3 H3 v3 g3 i3 s3 => ?_
        -- seen = seen + list(part)
        have g23 := g2.trans g3
        refine q_set (W := andW (deskW C p le lb m es) (rawW [(l1, .lst xs)])) (F := F3) (a := .dt (.list (natsD (seenTo m.marks (grp m) m.marks.length i).1 ++ (cls (grp m) m.marks.length i).map fun k : Nat => PyData.int (k : Int)))) g3.fh i3
          (pr_catL (by unfold natsD; simp only [List.length_map]; omega) (pr_dt rfl (hs.mono g23.ff)) (pr_listT (ds := (cls (grp m) m.marks.length i).map fun k : Nat => PyData.int (k : Int)) (pr_dt rfl s3))) fun F4 H4 v4 g4 i4 s4 => ?_
        have g24 := g23.trans g4
        have s3' : Dt F4 v3 (.tuple ((cls (grp m) m.marks.length i).map fun k : Nat => .int (k : Int))) := Dt.mono g4.ff s3
        have hcm := pr_lcT (W := andW (deskW C p le lb m es) (rawW [(l1, .lst xs)])) (K := K) (σ := [some (.ref p), some (.ref l1), some v4, some (.int (i : Int)), some v3, none]) (F := F4) (H := H4) (j := 5) (vs := [5]) (tt := tYes) (te' := tOp (rIxT K) (tFld K (tVar 0) "marks") (tVar 5))
          (fun _ => true) (fun d => match d with | .int k => .str (nm m.marks k.toNat) | _ => .none) (pr_dt (i := 4) rfl s3') (by rw [List.length_map]; omega) (fun _ => rfl)
          (fun d hd F1 H1 w g _ hw => prt_yes)
          (fun d hd F1 H1 w g _ hw _ => by
            obtain ⟨k, hk, rfl⟩ := List.mem_map.mp hd
            have hkn := (mem_cls.mp hk).1
            refine pr_to (pr_ixT (n := k) rfl (d := .str (nm m.marks k)) ?_ (pr_marks T hI rfl) (pr_dt rfl hw)) ?_
            · rw [List.getElem?_map, List.getElem?_eq_getElem hkn, nm_get hkn]; rfl
            · show PyData.str (nm m.marks k) = PyData.str (nm m.marks ((k : Int)).toNat)
              rw [Int.toNat_natCast])
        have ecm : ((((cls (grp m) m.marks.length i).map fun k : Nat => PyData.int (k : Int)).filter fun _ => true).map fun d => match d with | .int k => PyData.str (nm m.marks k.toNat) | _ => .none) = (namesOf m.marks (cls (grp m) m.marks.length i)).map .str := by
          rw [List.filter_eq_self.mpr (fun _ _ => rfl), List.map_map]
          unfold namesOf
          rw [List.map_map]
          refine List.map_congr_left fun k _ => ?_
          show PyData.str (nm m.marks ((k : Int)).toNat) = PyData.str (nm m.marks k)
          rw [Int.toNat_natCast]
        rw [ecm] at hcm
        have hl4 := (i4.2 _ List.mem_cons_self)
        refine s_append (W := andW (deskW C p le lb m es) (rawW [(l1, .lst xs)])) (F := F4) (l := l1) (xs := xs) (i := 1) (a := .dt (strsD (namesOf m.marks (cls (grp m) m.marks.length i)))) g4.fh i4 rfl hl4.1 (fun z => nomatch z) (by rw [hx.len, List.length_map]; omega) (pr_tupleL hcm) fun F5 H5 v5 g5 i5 s5 => ?_
        have hl5 := (i5.2 _ List.mem_cons_self)
        refine ⟨F5, xs ++ [v5], v4, _, _, rfl, ((g.trans g24).trans g5).write hl5.2 (.inl hl1), hl5.2, upd_same, ?_, ?_⟩
        · rw [eS, List.map_append]
          exact (hx.mono (g24.trans g5).ff).snoc s5
        · rw [eS]
          unfold natsD
          rw [List.map_append, List.map_append, List.map_map]
          unfold natsD at s4
          rw [List.map_map] at s4
          have := Dt.mono g5.ff s4
          rw [List.map_map]
          exact this
      · have hni : i ∈ (seenTo m.marks (grp m) m.marks.length i).1 := by
          rw [Bool.not_eq_false'] at hb
          exact of_decide_eq_true hb
        have eS : seenTo m.marks (grp m) m.marks.length (i + 1) = seenTo m.marks (grp m) m.marks.length i := by
          show (if i ∈ (seenTo m.marks (grp m) m.marks.length i).1 then _ else _) = _
          rw [if_pos hni]
        have hl2 := (i2.2 _ List.mem_cons_self)
        rw [eS]
        exact ⟨F2, xs, v2, _, _, rfl, g.trans g2, hl2.2, hl2.1, hx.mono g2.ff, hs.mono g2.ff⟩
    · obtain ⟨F', xs, v2, o3, o4, rfl, g, fl, hl, hx, hs⟩ := h
      refine ⟨_, rfl, l1, xs, rfl, .inl ⟨SqL.of hl, fun l hln => ?_⟩⟩
      have g2 : Gw [] F' H' (upd F' l (.tup xs)) (upd H' l (.tup xs)) := (Gw.refl g.fh).frz hln
      refine q _ _ _ (g.trans g2) ?_
      unfold partsD
      rw [← parts_eq wf.nd rfl]
      exact .tup (.inl upd_same) (hx.mono g2.ff)
end
end K39
end

section
set_option Elab.async false
set_option linter.all false
set_option maxRecDepth 100000
set_option maxHeartbeats 4000000
namespace K39
open PySem PySem.Spec PyProof.Rows L2

/-! ### a path of deeds that can be done -/
structure Path (ms : Nat → Md) (ds : List PyData) (n : Nat) : Prop where
  zero : ms 0 = md0
  go : ∀ i, i < n → ∃ e : Deed, ds[i]? = some e.d ∧ canDo (ms i) i e.d = true ∧ ms (i + 1) = step (ms i) e
theorem path_wf {ms : Nat → Md} {ds : List PyData} {n : Nat} (p : Path ms ds n) : ∀ i, i ≤ n → Wf (ms i) := by
  intro i
  induction i with
  | zero => intro _; rw [p.zero]; exact wf0
  | succ i ih =>
    intro hi
    obtain ⟨e, _, h, h2⟩ := p.go i (by omega)
    rw [h2]
    exact wf_step (ih (by omega)) h
/-- what was new at the start may be written -/
theorem gw_new {M : List Addr} {F H F1 H1 F2 H2 : Hp} (g : Gw [] F H F1 H1) (g2 : Gw M F1 H1 F2 H2) (h : ∀ x ∈ M, H x = none) : Gw [] F H F2 H2 :=
  ⟨g.ff.trans g2.ff, fun b hb => (g2.new b (g.there b hb)).trans (g.new b hb), g2.fh, fun b o _ e => g2.keep b o (fun z => by rw [h b z] at e; cases e) (g.keep0 e), fun b hb => g2.there b (g.there b hb)⟩
theorem take_snoc' {α : Type} {l : List α} {i : Nat} {x : α} (h : l[i]? = some x) : l.take (i + 1) = l.take i ++ [x] := by
  rw [List.take_succ, h]; rfl
section
variable {P : Program} {w : World} {K : PySem.W.Frag} {mg : Str → Option Value} {base : Heap} {C dl Cb fI : Addr}

/-! ### replay -/
-- slots: 0 log, 1 desk, 2 entry
abbrev s_replay : Stmt := top 21
theorem sc_replay : FnScope ["log", "desk", "entry"] ["log"] (defScope s_replay) := ⟨rfl, rfl, rfl, by decide +kernel, rfl, by decide +kernel, by decide +kernel⟩
def sp_replay (C Cb : Addr) : Sp := fun vs H Q E => ∃ (F : Hp) (v : V) (ds : List PyData) (ms : Nat → Md) (n : Nat), vs = [v] ∧ Same F H ∧ Dt F v (.tuple ds) ∧ Path ms ds n ∧ n ≤ ds.length ∧ (∀ d ∈ ds, DOk d) ∧
  (∀ d, ds[n]? = some d → canDo (ms n) n d = false ∧ ∀ F' H' dd, Gw [] F H F' H' → H' dd = some (.xd [("place", .int n)]) → E (.ref Cb) (some dd) H') ∧
  (n = ds.length → ∀ F' H' p le lb, Gw [] F H F' H' → H p = none → H le = none → H lb = none → DeskAt C p le lb (ms n) ds F' H' → Q (.ref p) H')
theorem ok_replay (F : Df K mg "replay" s_replay) (c_Desk : Mkr P w K mg base C 1) (c_do : Ml P w K mg base C (L2.CX P w) 4 "do" (sp_do C Cb)) : Cl P w K mg base (L2.CX P w) 5 "replay" (sp_replay C Cb) := by
  refine cl_ofX F sc_replay (fun vs H Q E h => ?_) (fun _ _ _ _ _ _ us hl => match us, hl with | [_], _ => rfl) fun f cdv A outer s H vs Q E hr h => ?_
  · obtain ⟨_, _, _, _, _, rfl, _⟩ := h
    rfl
  · obtain ⟨F, v, ds, ms, n, rfl, sf, hv, path, hn, hok, qE, qN⟩ := h
    refine ⟨_, (pss_cons (ps_set (i := 1) sc_replay.nd rfl (Or.inl rfl) (pe_mk0 c_Desk hr (by decide) rfl)) (pss_cons (ps_for (passes_of rfl) rfl (pi_tup (pv 0)) (pg_name (i := 2) sc_replay.nd rfl (Or.inl rfl)) (pss_one (ps_expr (pe_mlE c_do hr (by decide) (passes_call (takes_of rfl rfl rfl rfl) (fun _ _ _ _ h => h)) (pv 1) (pa_cons (pv 2) pa_nil))))) (pss_one (ps_ret (pv 1))))), ?_⟩
    have e : (start ["log", "desk", "entry"] [v]) = [some v, none, none] := rfl
    rw [e]
    refine q_asg (mk_desk sf fun F1 H1 p le lb g1 hp hle hlb da => ?_)
    refine q_forT (W := w0) (F := F1) (items := ds) g1.fh True.intro (pr_dt (i := 0) rfl (hv.mono g1.ff)) fun F2 H2 g2 _ => ⟨fun i σ' H' => ∃ (F' : Hp) (o2 : Option V), σ' = [some v, some (.ref p), o2] ∧ Gw [] F H F' H' ∧ Same F2 F' ∧ DeskAt C p le lb (ms i) (ds.take i) F' H' ∧ i ≤ n,
      ⟨F2, none, rfl, g1.trans g2, Same.refl _, by rw [path.zero, List.take_zero]; exact (deskW C p le lb md0 []).st _ _ _ _ g2 da, Nat.zero_le _⟩, ?_, ?_, ?_⟩
    · rintro i σ' H' ⟨F', o2, _, g, f2, _⟩
      exact f2.trans g.fh
    · rintro i d x σ' H' hd hx ⟨F', o2, rfl, g, f2, da', hin⟩
      have hid : i < ds.length := (List.getElem?_eq_some_iff.mp hd).1
      obtain ⟨dx, pm, pr, e1, _⟩ := da'.ins
      have hlen : (ds.take i).length = i := by rw [List.length_take]; omega
      refine ⟨_, rfl, p, dx, _, rfl, e1, lk_do, _, rfl, ?_⟩
      refine ⟨F', p, le, lb, ms i, ds.take i, x, d, rfl, g.fh, da', path_wf path i hin, hx.mono f2, hok d (List.mem_of_getElem? hd), fun hc F3 H3 dd g3 hdd => ?_, fun hc e he F3 H3 g3 da3 => ?_⟩
      · rw [hlen] at hc hdd
        have hi : i = n := by
          rcases Nat.lt_or_ge i n with h | h
          · obtain ⟨e, e2, e3, _⟩ := path.go i h
            rw [hd] at e2
            cases e2
            rw [hc] at e3
            cases e3
          · omega
        subst hi
        exact (qE d hd).2 F3 H3 dd (g.trans g3) hdd
      · rw [hlen] at hc
        have hi : i < n := by
          rcases Nat.lt_or_ge i n with h | h
          · exact h
          · have : i = n := by omega
            subst this
            rw [(qE d hd).1] at hc
            cases hc
        obtain ⟨e', e2, e3, e4⟩ := path.go i hi
        rw [hd] at e2
        have ed : d = e'.d := Option.some.inj e2
        have ee : step (ms i) e = step (ms i) e' := by
          have : e.d = e'.d := he ▸ ed
          cases e <;> cases e' <;> first | (cases this; rfl) | exact absurd this (by intro z; cases z)
        refine ⟨F3, _, rfl, gw_new g g3 ?_, f2.trans g3.ff, ?_, by omega⟩
        · intro y hy
          simp only [List.mem_cons, List.not_mem_nil, or_false] at hy
          rcases hy with rfl | rfl | rfl <;> assumption
        · rw [take_snoc' hd, e4, ← ee]
          exact da3
    · rintro σ' H' ⟨F', o2, rfl, g, f2, da', hin⟩
      have hnn : n = ds.length := by omega
      refine ⟨_, rfl, ?_⟩
      rw [List.take_length, ← hnn] at da'
      exact qN hnn F' H' p le lb g hp hle hlb da'

/-! ### pure values -/
def Pu (te : TE) (σ : L2.St) (H : Hp) (v : V) : Prop := ∀ Q : VK, Q v H → te σ H Q
section
variable {te ta tb : TE} {σ : L2.St} {H : Hp} {v : V} {i j : Int} {g : Int → Int → V} {R : Int → Int → Prop}
theorem pu_var {k : Nat} (h : σ[k]? = some (some v)) : Pu (tVar k) σ H v := fun Q q => ⟨v, h, q⟩
theorem pu_c : Pu (tC v) σ H v := fun Q q => q
theorem pu_I (ha : Pu ta σ H (.int i)) (hb : Pu tb σ H (.int j)) : Pu (tOp (rI0 g) ta tb) σ H (g i j) := fun Q q => ha _ (hb _ ⟨i, j, rfl, rfl, q⟩)
theorem pu_Ic (hc : R i j) (ha : Pu ta σ H (.int i)) (hb : Pu tb σ H (.int j)) : Pu (tOp (rI R g) ta tb) σ H (g i j) := fun Q q => ha _ (hb _ ⟨i, j, rfl, rfl, hc, q⟩)
theorem pu_int (h : Pu te σ H (.int i)) : Pu (tCB (fun xs H Q => (∃ i, xs = [.int i] ∧ Q (.int i) H) ∨ ∃ k, xs = [.bl k] ∧ Q (.int (if k then 1 else 0)) H) (tCons te tNil)) σ H (.int i) := fun Q q => h _ (.inl ⟨i, rfl, q⟩)
theorem pu_len {a : Addr} {xs : List V} (hs : SqL K H a xs) (h : Pu te σ H (.ref a)) : Pu (tCB (fun xs H Q => ∃ p ys, xs = [.ref p] ∧ (SqL K H p ys ∨ SqT K H p ys) ∧ Q (.int ys.length) H) (tCons te tNil)) σ H (.int xs.length) := fun Q q => h _ ⟨a, xs, rfl, .inl hs, q⟩
theorem pu_ix {a : Addr} {xs : List V} (hs : SqL K H a xs) (he : atI xs i = some v) (h : Pu te σ H (.ref a)) (hb : Pu tb σ H (.int i)) : Pu (tOp (rIxL K) te tb) σ H v := fun Q q => h _ (hb _ ⟨a, xs, i, v, rfl, rfl, hs, he, q⟩)
theorem pu_cmp {Qb : Bool → Hp → Prop} {c : Bool} (h : Pu te σ H (.bl c)) (q : Qb c H) : tTest te σ H Qb := h _ ⟨c, rfl, q⟩
end
theorem sql_upd {H : Hp} {a l : Addr} {xs : List V} {o : HO} (h : SqL K H a xs) (hl : H l = none) : SqL K (upd H l o) a xs := by
  rcases h with h | h
  · refine .inl ?_
    rcases h with h | ⟨o', h⟩
    · exact .inl ((upd_ne (ne_of_none h hl)).trans h)
    · exact .inr ⟨o', (upd_ne (ne_of_none h hl)).trans h⟩
  · exact .inr h

/-! ### _law_cell -/
-- slots: 0 _law_script, 1 _law_k
abbrev s_l_cell : Stmt := top 23
theorem sc_l_cell : FnScope ["_law_script", "_law_k"] ["_law_script", "_law_k"] (defScope s_l_cell) := ⟨rfl, rfl, rfl, by decide +kernel, rfl, by decide +kernel, by decide +kernel⟩
def sp_cell (K : PySem.W.Frag) : Sp := fun vs H Q _ => ∃ (a : Addr) (ns : List Int) (k : Nat), vs = [.ref a, .int k] ∧ SqL K H a (ns.map V.int) ∧ ∀ n, Q (.int n) H
theorem ok_cell (F : Df K mg "_law_cell" s_l_cell) (T : Txt K w mg C dl) : Cl P w K mg base CX0 1 "_law_cell" (sp_cell K) := by
  refine cl_of F sc_l_cell (fun vs H Q E h => ?_) (fun _ _ _ _ _ _ us hl => match us, hl with | [_, _], _ => rfl) fun f cdv A outer s H vs Q E hr h => ?_
  · obtain ⟨_, _, _, rfl, _⟩ := h
    rfl
  · obtain ⟨a, ns, k, rfl, hs, q⟩ := h
    refine ⟨_, (pss_cons (ps_if (pt_cmpR op_lt (pv 1) (pe_callB call_len_seq (by rfl) T.len_ PySem.boot_len (pa_cons (pv 0) pa_nil)) (nomark _)) (pss_one (ps_ret (pe_ix (ix_listK K) (pv 0) (pv 1) (fun _ _ => rfl)))) pss_nil) (pss_one (ps_ret pe_int))), ?_⟩
    have e : (start ["_law_script", "_law_k"] [.ref a, .int (k : Int)]) = [some (.ref a), some (.int (k : Int))] := rfl
    rw [e]
    refine pu_cmp (pu_I (g := fun i j => .bl (decide (i < j))) (pu_var rfl) (pu_len hs (pu_var rfl))) ?_
    by_cases c : k < ns.length
    · rw [if_pos (decide_eq_true (by rw [List.length_map]; omega))]
      have hg : (ns.map V.int)[k]? = some (.int ns[k]) := by rw [List.getElem?_map, List.getElem?_eq_getElem c]; rfl
      exact pu_ix hs (atI_nat hg) (pu_var rfl) (pu_var rfl) _ (q _)
    · rw [if_neg (fun z => by have := of_decide_eq_true z; rw [List.length_map] at this; omega)]
      exact q 0

section
variable {W : Wd} {σ : L2.St} {F H F1 H1 : Hp} {te ta tb tc to : TE} {tt t u : TT} {a : Ar} {v : V} {d e : PyData} {D : Ends} {tu tw tz : TS}
theorem s_forR {j : Nat} {n : Nat} (sf : Same F H) (iw : W.I F H) (h : Pr W te σ F H (.dt (.int n))) (hn : n ≤ 100000) (Pv : Nat → L2.St → Hp → Prop) (h0 : ∀ F1 H1, Gw W.M F H F1 H1 → W.I F1 H1 → Pv 0 σ H1)
    (hs : ∀ (i : Nat) σ' H', i < n → Pv i σ' H' → tu { D with nx := Pv (i + 1), ct := Pv (i + 1), bk := D.nx } (σ'.set j (some (.int (i : Int)))) H') (hd : ∀ σ' H', Pv n σ' H' → D.nx σ' H') : tFor (iRng1 (tCons te tNil)) (gName j) tu D σ H :=
  h F H (Gw.refl sf) iw _ fun F1 H1 v g1 i1 s1 => by
    cases s1
    refine ⟨(n : Int), rfl, by omega, by omega, ?_⟩
    rw [Int.toNat_natCast]
    refine for_range (lo := 0) (n := n) Pv (h0 F1 H1 g1 i1) (fun i σ' H' hi p => ?_) hd
    have e0 : (0 : Int) + (i : Int) = (i : Int) := Int.zero_add _
    rw [e0]
    exact hs i σ' H' hi p
/-- if t: x = e, x a number -/
theorem q_ifset {i : Nat} {b : Bool} {c c' : Int} (sf : Same F H) (iw : W.I F H) (ht : PrT W t σ F H b) (hc : σ.set i (some (.int c)) = σ) (he : Pr W te σ F H (.dt (.int c'))) (k : ∀ F1 H1 n, Gw W.M F H F1 H1 → W.I F1 H1 → tz D (σ.set i (some (.int n))) H1) :
    tSeq (tIfS t (tAsg te (gName i)) tNext) tz D σ H :=
  q_when sf iw ht (fun _ F1 H1 g1 i1 => he F1 H1 g1 i1 _ fun F2 H2 v g2 i2 s2 => by
    cases s2
    exact k F2 H2 _ (g1.trans g2) i2) fun _ F1 H1 g1 i1 => by
    have := k F1 H1 c g1 i1
    rwa [hc] at this
end

/-! ### _law_digits -/
-- slots: 0 _law_script, 1 _law_first, 2 _law_last, 3 _law_digits_here, 4 _law_k, 5 _law_cell_here, 6 _law_turn, 7 _law_seed
abbrev s_l_digits : Stmt := top 24
theorem sc_l_digits : FnScope ["_law_script", "_law_first", "_law_last", "_law_digits_here", "_law_k", "_law_cell_here", "_law_turn", "_law_seed"] ["_law_script", "_law_first", "_law_last"] (defScope s_l_digits) := ⟨rfl, rfl, rfl, by decide +kernel, rfl, by decide +kernel, by decide +kernel⟩
def sp_digits (K : PySem.W.Frag) : Sp := fun vs H Q _ => ∃ (F : Hp) (a : Addr) (ns : List Int), vs = [.ref a, .int 0, .int 63] ∧ Same F H ∧ SqL K H a (ns.map V.int) ∧ ∀ F' H' l (ds : List Int), Gw [] F H F' H' → H l = none → F' l = none → H' l = some (.lst (ds.map V.int)) → Q (.ref l) H'
theorem sql_gw {F H F' H' : Hp} {a : Addr} {xs : List V} (g : Gw [] F H F' H') (h : SqL K H a xs) : SqL K H' a xs := by
  rcases h with h | h
  · refine .inl ?_
    rcases h with h | ⟨o', h⟩
    · exact .inl (g.keep0 h)
    · exact .inr ⟨o', g.keep0 h⟩
  · exact .inr h
theorem int_snoc (ds : List Int) (n : Int) : ds.map V.int ++ [.int n] = (ds ++ [n]).map V.int := by rw [List.map_append]; rfl
theorem ok_digits (F : Df K mg "_law_digits" s_l_digits) (T : Txt K w mg C dl) (c__law_cell : Cl P w K mg base CX0 1 "_law_cell" (sp_cell K)) : Cl P w K mg base CX0 2 "_law_digits" (sp_digits K) := by
  refine cl_of F sc_l_digits (fun vs H Q E h => ?_) (fun _ _ _ _ _ _ us hl => match us, hl with | [_, _, _], _ => rfl) fun f cdv A outer s H vs Q E hr h => ?_
  · obtain ⟨_, _, _, rfl, _⟩ := h
    rfl
  · obtain ⟨F, a, ns, rfl, sf, hs, q⟩ := h
    refine ⟨_, (pss_cons (ps_set (i := 3) sc_l_digits.nd rfl (Or.inl rfl) (pe_lst pa_nil)) (pss_cons (ps_for PassesOwn.never rfl (pi_range2 (by rfl) T.range (pa_cons (pv 1) (pa_cons (pv 2) pa_nil))) (pg_name (i := 4) sc_l_digits.nd rfl (Or.inl rfl)) (pss_cons (ps_set (i := 5) sc_l_digits.nd rfl (Or.inl rfl) (pe_cl c__law_cell hr (by decide) rfl (pa_cons (pv 0) (pa_cons (pv 4) pa_nil)))) (pss_cons (ps_if (pt_cmpR op_lt (pv 5) pe_int (nomark _)) (pss_one (ps_set (i := 5) sc_l_digits.nd rfl (Or.inl rfl) (pe_op op_sub pe_int (pe_op op_mul pe_int (pv 5))))) pss_nil) (pss_one (ps_if (pt_cmpR op_ge (pv 5) (pe_op op_pow pe_int pe_int) (nomark _)) (pss_one (ps_for PassesOwn.never rfl (pi_range1 (by rfl) T.range (pa_cons pe_int pa_nil)) (pg_name (i := 6) sc_l_digits.nd rfl (Or.inl rfl)) (pss_one (ps_if (pt_cmpR op_gt (pv 5) pe_int (nomark _)) (pss_cons (ps_expr (pe_bm PySem.F.plainAttrs_list PySem.F.slot_list_append PySem.F.type_list_append mt_append (pv 3) (pa_cons (pe_op op_mod (pe_callTy call_int1 (by rfl) T.int_ boot_int (pa_cons (pv 5) pa_nil)) pe_int) pa_nil))) (pss_one (ps_set (i := 5) sc_l_digits.nd rfl (Or.inl rfl) (pe_op op_fdiv (pv 5) pe_int)))) pss_nil)))) (pss_cons (ps_set (i := 7) sc_l_digits.nd rfl (Or.inl rfl) (pe_op op_mod (pe_callTy call_int1 (by rfl) T.int_ boot_int (pa_cons (pe_op op_add (pe_op op_add (pe_op op_mul (pv 5) pe_int) (pe_op op_mul (pv 4) pe_int)) pe_int) pa_nil)) pe_int)) (pss_one (ps_for PassesOwn.never rfl (pi_range1 (by rfl) T.range (pa_cons pe_int pa_nil)) (pg_name (i := 6) sc_l_digits.nd rfl (Or.inl rfl)) (pss_cons (ps_set (i := 7) sc_l_digits.nd rfl (Or.inl rfl) (pe_op op_mod (pe_callTy call_int1 (by rfl) T.int_ boot_int (pa_cons (pe_op op_add (pe_op op_add (pe_op op_mul (pv 7) pe_int) (pe_op op_mul pe_int (pv 6))) pe_int) pa_nil)) pe_int)) (pss_one (ps_expr (pe_bm PySem.F.plainAttrs_list PySem.F.slot_list_append PySem.F.type_list_append mt_append (pv 3) (pa_cons (pe_op op_mod (pe_callTy call_int1 (by rfl) T.int_ boot_int (pa_cons (pe_op op_fdiv (pv 7) pe_int) pa_nil)) pe_int) pa_nil))))))))))))) (pss_one (ps_ret (pv 3))))), ?_⟩
    have e : (start ["_law_script", "_law_first", "_law_last", "_law_digits_here", "_law_k", "_law_cell_here", "_law_turn", "_law_seed"] [.ref a, .int 0, .int 63]) = [some (.ref a), some (.int 0), some (.int 63), none, none, none, none, none] := rfl
    rw [e]
    refine q_asg ⟨Nat.zero_le _, fun l hl => ?_⟩
    have g0 : Gw [] F H F (upd H l (.lst [])) := (Gw.refl sf).fresh hl
    refine ⟨_, rfl, _, rfl, 0, 63, rfl, by decide, for_range (lo := 0) (n := 63) (fun i σ' H' => ∃ (F' : Hp) (ds : List Int) (o4 o5 o6 o7 : Option V), σ' = [some (.ref a), some (.int 0), some (.int 63), some (.ref l), o4, o5, o6, o7] ∧ Gw [] F H F' H' ∧ F' l = none ∧ H' l = some (.lst (ds.map V.int)) ∧ ds.length ≤ 60 * i)
      ⟨F, [], none, none, none, none, rfl, g0, same_fnone sf hl, upd_same, by simp⟩ (fun i σ' H' hi h => ?_) (fun σ' H' h => ?_)⟩
    · obtain ⟨F', ds, o4, o5, o6, o7, rfl, g, fl, hd, hz⟩ := h
      have e0 : (0 : Int) + (i : Int) = (i : Int) := Int.zero_add _
      rw [e0]
      -- cell
      refine q_asg ⟨_, rfl, _, rfl, a, ns, i, rfl, sql_gw g hs, fun n => ?_⟩
      -- if cell < 0: cell = 1 - 2 * cell
      refine q_ifset (W := rawW [(l, .lst (ds.map V.int))]) (F := F') (c := n) (c' := 1 - 2 * n) g.fh (raw1 hd fl) (prt_test (pr_lt (pr_dt (i := 5) rfl (.int n)) pr_int)) rfl (pr_sub pr_int (pr_mul (by decide) pr_int (pr_dt (i := 5) rfl (.int n)))) fun F1 H1 c g1 i1 => ?_
      have st1 := i1 _ List.mem_cons_self
      refine s_if (W := rawW [(l, .lst (ds.map V.int))]) (F := F1) (b := decide ((10 : Int) ^ (18 : Int).toNat ≤ c)) g1.fh i1 (prt_test (pr_ge (pr_dt (i := 5) rfl (.int c)) (pr_Ic (g := fun i j => .int (i ^ j.toNat)) (gd := .int ((10 : Int) ^ (18 : Int).toNat)) (fun _ => .int _) (show CPow 10 18 from ⟨by decide, by decide, by decide⟩) pr_int pr_int))) (fun _ F2 H2 g2 i2 => ?_) (fun _ F2 H2 g2 i2 => ?_)
      · -- sixty digits of a big number
        refine s_forR (W := rawW [(l, .lst (ds.map V.int))]) (F := F2) (n := 60) g2.fh i2 pr_int (by decide) (fun j σ2 H3 => ∃ (F3 : Hp) (ds2 : List Int) (c2 : Int) (o6 o7 : Option V), σ2 = [some (.ref a), some (.int 0), some (.int 63), some (.ref l), some (.int (i : Int)), some (.int c2), o6, o7] ∧ Gw [] F H F3 H3 ∧ F3 l = none ∧ H3 l = some (.lst (ds2.map V.int)) ∧ ds2.length ≤ 60 * i + j)
          (fun F3 H3 g3 i3 => ⟨F3, ds, c, o6, o7, rfl, ((g.trans g1).trans g2).trans g3, (i3 _ List.mem_cons_self).2, (i3 _ List.mem_cons_self).1, hz⟩) (fun j σ2 H3 hj h => ?_) (fun σ2 H3 h => ?_)
        · obtain ⟨F3, ds2, c2, p6, p7, rfl, g3, fl3, hd3, hz3⟩ := h
          refine s_when (W := rawW [(l, .lst (ds2.map V.int))]) (F := F3) (b := decide (0 < c2)) g3.fh (raw1 hd3 fl3) (prt_test (pr_gt (pr_dt (i := 5) rfl (.int c2)) pr_int)) (fun _ F4 H4 g4 i4 => ?_) (fun _ F4 H4 g4 i4 => ?_)
          · have st4 := i4 _ List.mem_cons_self
            refine q_append (W := rawW [(l, .lst (ds2.map V.int))]) (F := F4) (l := l) (i := 3) (a := .dt (.int (c2 % 1000))) g4.fh i4 rfl st4.1 (fun z => nomatch z) (by rw [List.length_map]; omega) (pr_mod (by decide) (pr_toInt (pr_dt (i := 5) rfl (.int c2))) pr_int) fun F5 H5 v5 g5 i5 s5 => ?_
            cases s5
            have st5 := i5 _ List.mem_cons_self
            rw [int_snoc]
            have g35 : Gw [] F H F5 (upd H5 l (.lst ((ds2 ++ [c2 % 1000]).map V.int))) := ((g3.trans g4).trans g5).write st5.2 (.inl hl)
            refine s_set (W := rawW [(l, .lst ((ds2 ++ [c2 % 1000]).map V.int))]) (F := F5) (a := .dt (.int (c2 / 1000))) g35.fh (raw1 upd_same st5.2) (pr_Ic (g := fun i j => .int (i / j)) (gd := .int (c2 / 1000)) (fun _ => .int _) (show CDiv c2 1000 from ⟨by decide, by decide⟩) (pr_dt (i := 5) rfl (.int c2)) pr_int) fun F6 H6 v6 g6 i6 s6 => ?_
            cases s6
            have st6 := i6 _ List.mem_cons_self
            exact ⟨F6, _, _, _, _, rfl, g35.trans g6, st6.2, st6.1, by rw [List.length_append, List.length_singleton]; omega⟩
          · have st4 := i4 _ List.mem_cons_self
            exact ⟨F4, ds2, c2, _, _, rfl, g3.trans g4, st4.2, st4.1, by omega⟩
        · obtain ⟨F3, ds2, c2, p6, p7, rfl, g3, fl3, hd3, hz3⟩ := h
          exact ⟨F3, ds2, _, _, _, _, rfl, g3, fl3, hd3, by omega⟩
      · -- twelve digits from a seed
        have seed : ∀ {F2 H2 : Hp}, Pr (rawW [(l, .lst (ds.map V.int))]) _ [some (.ref a), some (.int 0), some (.int 63), some (.ref l), some (.int (i : Int)), some (.int c), o6, o7] F2 H2 (.dt (.int ((c * 48271 + (i : Int) * 69621 + 11) % 2147483647))) := fun {F2 H2} =>
          pr_mod (by decide) (pr_toInt (pr_add (pr_add (pr_mulR (by decide) (pr_dt (i := 5) rfl (.int c)) pr_int) (pr_mulR (by decide) (pr_dt (i := 4) rfl (.int (i : Int))) pr_int)) pr_int)) pr_int
        refine q_set (W := rawW [(l, .lst (ds.map V.int))]) (F := F2) g2.fh i2 seed fun F3 H3 v3 g3 i3 s3 => ?_
        cases s3
        refine s_forR (W := rawW [(l, .lst (ds.map V.int))]) (F := F3) (n := 12) g3.fh i3 pr_int (by decide) (fun j σ2 H3 => ∃ (F3 : Hp) (ds2 : List Int) (c2 : Int) (o6 : Option V), σ2 = [some (.ref a), some (.int 0), some (.int 63), some (.ref l), some (.int (i : Int)), some (.int c), o6, some (.int c2)] ∧ Gw [] F H F3 H3 ∧ F3 l = none ∧ H3 l = some (.lst (ds2.map V.int)) ∧ ds2.length ≤ 60 * i + j)
          (fun F4 H4 g4 i4 => ⟨F4, ds, _, o6, rfl, (((g.trans g1).trans g2).trans g3).trans g4, (i4 _ List.mem_cons_self).2, (i4 _ List.mem_cons_self).1, hz⟩) (fun j σ2 H3 hj h => ?_) (fun σ2 H3 h => ?_)
        · obtain ⟨F3, ds2, c2, p6, rfl, g3, fl3, hd3, hz3⟩ := h
          refine q_set (W := rawW [(l, .lst (ds2.map V.int))]) (F := F3) (a := .dt (.int ((c2 * 16807 + 7 * (j : Int) + 1) % 2147483647))) g3.fh (raw1 hd3 fl3) (pr_mod (by decide) (pr_toInt (pr_add (pr_add (pr_mulR (by decide) (pr_dt (i := 7) rfl (.int c2)) pr_int) (pr_mul (by decide) pr_int (pr_dt (i := 6) rfl (.int (j : Int))))) pr_int)) pr_int) fun F4 H4 v4 g4 i4 s4 => ?_
          cases s4
          have st4 := i4 _ List.mem_cons_self
          refine s_append (W := rawW [(l, .lst (ds2.map V.int))]) (F := F4) (l := l) (i := 3) (a := .dt (.int (((c2 * 16807 + 7 * (j : Int) + 1) % 2147483647) / 997 % 1000))) g4.fh i4 rfl st4.1 (fun z => nomatch z) (by rw [List.length_map]; omega)
            (pr_mod (by decide) (pr_toInt (pr_Ic (g := fun i j => .int (i / j)) (gd := .int (((c2 * 16807 + 7 * (j : Int) + 1) % 2147483647) / 997)) (fun _ => .int _) (show CDiv _ 997 from ⟨by decide, by decide⟩) (pr_dt (i := 7) rfl (.int _)) pr_int)) pr_int) fun F5 H5 v5 g5 i5 s5 => ?_
          cases s5
          have st5 := i5 _ List.mem_cons_self
          rw [int_snoc]
          exact ⟨F5, _, _, _, rfl, ((g3.trans g4).trans g5).write st5.2 (.inl hl), st5.2, upd_same, by rw [List.length_append, List.length_singleton]; omega⟩
        · obtain ⟨F3, ds2, c2, p6, rfl, g3, fl3, hd3, hz3⟩ := h
          exact ⟨F3, ds2, _, _, _, _, rfl, g3, fl3, hd3, by omega⟩
    · obtain ⟨F', ds, o4, o5, o6, o7, rfl, g, fl, hd, hz⟩ := h
      exact ⟨_, rfl, q F' H' l ds g hl fl hd⟩

/-! ### _law_draw -/
-- slots: 0 _law_box, 1 _law_many, 2 _law_at
abbrev s_l_draw : Stmt := top 25
theorem sc_l_draw : FnScope ["_law_box", "_law_many", "_law_at"] ["_law_box", "_law_many"] (defScope s_l_draw) := ⟨rfl, rfl, rfl, by decide +kernel, rfl, by decide +kernel, by decide +kernel⟩
def sp_draw : Sp := fun vs H Q _ => ∃ (F : Hp) (box : Addr) (many : Int), vs = [.ref box, .int many] ∧ Same F H ∧ BoxAt box F H ∧ 0 < many ∧ ∀ F' H' (n : Nat), Gw [box] F H F' H' → BoxAt box F' H' → (n : Int) < many → Q (.int n) H'
theorem ok_draw (F : Df K mg "_law_draw" s_l_draw) (T : Txt K w mg C dl) : Cl P w K mg base CX0 1 "_law_draw" sp_draw := by
  refine cl_of F sc_l_draw (fun vs H Q E h => ?_) (fun _ _ _ _ _ _ us hl => match us, hl with | [_, _], _ => rfl) fun f cdv A outer s H vs Q E hr h => ?_
  · obtain ⟨_, _, _, rfl, _⟩ := h
    rfl
  · obtain ⟨F, box, many, rfl, sf, ⟨⟨dg, n, ds, hb, hn, hdg⟩, fb⟩, hm, q⟩ := h
    refine ⟨_, (pss_cons (ps_set (i := 2) sc_l_draw.nd rfl (Or.inl rfl) (pe_ix (ix_listK K) (pv 0) pe_int (fun _ _ => rfl))) (pss_cons (ps_asg (pe_op op_add (pv 2) pe_int) (pg_sub (pv 0) pe_int set_list)) (pss_cons (ps_if (pt_cmpR op_lt (pv 2) (pe_callB call_len_seq (by rfl) T.len_ PySem.boot_len (pa_cons (pe_ix (ix_listK K) (pv 0) pe_int (fun _ _ => rfl)) pa_nil)) (nomark _)) (pss_one (ps_ret (pe_op op_mod (pe_callTy call_int1 (by rfl) T.int_ boot_int (pa_cons (pe_ix (ix_listK K) (pe_ix (ix_listK K) (pv 0) pe_int (fun _ _ => rfl)) (pv 2) (fun _ _ => rfl)) pa_nil)) (pv 1)))) pss_nil) (pss_one (ps_ret (pe_op op_mod (pe_callTy call_int1 (by rfl) T.int_ boot_int (pa_cons (pe_op op_add (pe_op op_mul (pv 2) pe_int) pe_int) pa_nil)) (pv 1))))))), ?_⟩
    have e : (start ["_law_box", "_law_many", "_law_at"] [.ref box, .int many]) = [some (.ref box), some (.int many), none] := rfl
    rw [e]
    have hdgH : H dg = some (.lst (ds.map V.int)) := sf _ _ hdg
    have nb : dg ≠ box := fun z => by rw [z, fb] at hdg; cases hdg
    refine q_asg (pu_ix (SqL.of hb) (i := 1) (v := .int n) rfl (pu_var rfl) pu_c _ ?_)
    refine q_asg (pu_I (g := fun i j => .int (i + j)) (pu_var rfl) pu_c _ ⟨_, rfl, box, [.ref dg, .int n], 1, 1, rfl, rfl, hb, rfl, ?_⟩)
    have hb1 : upd H box (.lst [.ref dg, .int (n + 1)]) box = some (.lst [.ref dg, .int (n + 1)]) := upd_same
    have hd1 : upd H box (.lst [.ref dg, .int (n + 1)]) dg = some (.lst (ds.map V.int)) := (upd_ne nb).trans hdgH
    have g1 : Gw [box] F H F (upd H box (.lst [.ref dg, .int (n + 1)])) := (Gw.refl sf).write fb (.inr (by simp))
    have b1 : BoxAt box F (upd H box (.lst [.ref dg, .int (n + 1)])) := ⟨⟨dg, n + 1, ds, hb1, by omega, hdg⟩, fb⟩
    have fin : ∀ x : Int, Q (.int (x % many)) (upd H box (.lst [.ref dg, .int (n + 1)])) := fun x => by
      have h0 : 0 ≤ x % many := Int.emod_nonneg _ (by omega)
      have h1 : x % many < many := Int.emod_lt_of_pos _ hm
      have h2 : ((x % many).toNat : Int) = x % many := Int.toNat_of_nonneg h0
      rw [← h2]
      exact q F _ _ g1 b1 (by omega)
    have sb : SqL K (upd H box (.lst [.ref dg, .int (n + 1)])) box [.ref dg, .int (n + 1)] := SqL.of hb1
    have sd : SqL K (upd H box (.lst [.ref dg, .int (n + 1)])) dg (ds.map V.int) := SqL.of hd1
    refine (?_ : tTest _ _ _ _)
    refine pu_cmp (pu_I (g := fun i j => .bl (decide (i < j))) (pu_var rfl) (pu_len sd (pu_ix sb (i := 0) (v := .ref dg) rfl (pu_var rfl) pu_c))) ?_
    by_cases c : n < ((ds.map V.int).length : Int)
    · rw [if_pos (decide_eq_true c)]
      rw [List.length_map] at c
      have hg : (ds.map V.int)[n.toNat]? = some (.int (ds[n.toNat]'(by omega))) := by rw [List.getElem?_map, List.getElem?_eq_getElem (by omega)]; rfl
      have ha := atI_nat hg
      rw [Int.toNat_of_nonneg hn] at ha
      exact pu_Ic (g := fun i j => .int (i % j)) (R := fun _ j => 0 < j) hm (pu_int (pu_ix sd ha (pu_ix sb (i := 0) (v := .ref dg) rfl (pu_var rfl) pu_c) (pu_var rfl))) (pu_var rfl) _ (fin _)
    · rw [if_neg (fun z => c (of_decide_eq_true z))]
      exact pu_Ic (g := fun i j => .int (i % j)) (R := fun _ j => 0 < j) hm (pu_int (pu_I (g := fun i j => .int (i + j)) (pu_Ic (g := fun i j => .int (i * j)) (Or.inr (by decide)) (pu_var rfl) pu_c) pu_c)) (pu_var rfl) _ (fin _)

/-- a world with the box in it -/
structure BoxIn (W : Wd) (box : Addr) : Prop where
  hM : box ∈ W.M
  hI : ∀ F H, W.I F H → BoxAt box F H
  hst : ∀ F H F' H', Gw [box] F H F' H' → BoxAt box F' H' → W.I F H → W.I F' H'
theorem BoxIn.gw {W : Wd} {box : Addr} (b : BoxIn W box) {F H F' H' : Hp} (g : Gw [box] F H F' H') : Gw W.M F H F' H' := g.mono fun x hx => by
  have : x = box := by simpa using hx
  rw [this]; exact b.hM
theorem boxIn {box : Addr} : BoxIn (boxW box) box := ⟨by simp [boxW], fun _ _ h => h, fun _ _ _ _ _ h _ => h⟩
theorem boxIn_and {box : Addr} {W2 : Wd} (h : ∀ x ∈ W2.own, x ≠ box) : BoxIn (andW (boxW box) W2) box :=
  ⟨List.mem_append_left _ (by simp [boxW]), fun _ _ h => h.1, fun F H F' H' g b i => ⟨b, W2.st' F H F' H' g.ff (fun x hx => by
    have q := W2.al F H i.2 x hx
    refine ⟨g.new x q, ?_⟩
    cases e : H x with
    | none => exact absurd e q
    | some o => exact g.keep x o (fun z => h x hx (by simpa using z)) e) i.2⟩⟩
theorem sg_draw {W : Wd} {box : Addr} {many : Int} (b : BoxIn W box) (hm : 0 < many) : Sg W sp_draw [.raw (.ref box), .dt (.int many)] (.ex fun d => ∃ n : Nat, d = .int (n : Int) ∧ (n : Int) < many) := fun F H vs sf i ha Q E q => by
  obtain ⟨v, r, rfl, rfl, x, r', rfl, hx, rfl⟩ := ha
  cases hx
  exact ⟨F, box, many, rfl, sf, b.hI F H i, hm, fun F' H' n g hb hn => q F' H' _ (b.gw g) (b.hst _ _ _ _ g hb i) ⟨_, .int _, n, rfl, hn⟩⟩

/-! ### _law_pick -/
-- slots: 0 _law_box, 1 _law_things
abbrev s_l_pick : Stmt := top 26
theorem sc_l_pick : FnScope ["_law_box", "_law_things"] ["_law_box", "_law_things"] (defScope s_l_pick) := ⟨rfl, rfl, rfl, by decide +kernel, rfl, by decide +kernel, by decide +kernel⟩
def sp_pick : Sp := fun vs H Q _ => ∃ (F : Hp) (box : Addr) (v : V) (ds : List PyData), vs = [.ref box, v] ∧ Same F H ∧ BoxAt box F H ∧ Dt F v (.list ds) ∧ ds ≠ [] ∧ ∀ F' H' x d, Gw [box] F H F' H' → BoxAt box F' H' → d ∈ ds → Dt F' x d → Q x H'
/-- what is known of an expression's value, then -/
theorem pr_ex {W : Wd} {σ : L2.St} {F H : Hp} {ta tb : TE} {r : R2} {Pd : PyData → Prop} {a c : Ar} (ha : Pr W ta σ F H a) (hb : Pr W tb σ F H (.ex Pd)) (k : ∀ d, Pd d → ∀ (F1 H1 : Hp) (x y : V), Same F1 H1 → W.I F1 H1 → a.sat F1 x → Dt F1 y d → ∀ Q : VK, (∀ F2 H2 v, Gw [] F1 H1 F2 H2 → c.sat F2 v → Q v H2) → r x y H1 Q) : Pr W (tOp r ta tb) σ F H c :=
  pr_op ha hb fun F1 H1 x y sf i hx hy Q q => by
    obtain ⟨d, hd, hp⟩ := hy
    exact k d hp F1 H1 x y sf i hx hd Q q
theorem ok_pick (F : Df K mg "_law_pick" s_l_pick) (T : Txt K w mg C dl) (c__law_draw : Cl P w K mg base CX0 1 "_law_draw" sp_draw) : Cl P w K mg base CX0 2 "_law_pick" sp_pick := by
  refine cl_of F sc_l_pick (fun vs H Q E h => ?_) (fun _ _ _ _ _ _ us hl => match us, hl with | [_, _], _ => rfl) fun f cdv A outer s H vs Q E hr h => ?_
  · obtain ⟨_, _, _, _, rfl, _⟩ := h
    rfl
  · obtain ⟨F, box, v, ds, rfl, sf, hb, hv, hne, q⟩ := h
    refine ⟨_, (pss_one (ps_ret (pe_ix (ix_listK K) (pv 1) (pe_op op_mod (pe_callTy call_int1 (by rfl) T.int_ boot_int (pa_cons (pe_cl c__law_draw hr (by decide) rfl (pa_cons (pv 0) (pa_cons pe_int pa_nil))) pa_nil)) (pe_callB call_len_seq (by rfl) T.len_ PySem.boot_len (pa_cons (pv 1) pa_nil))) (fun _ _ => rfl)))), ?_⟩
    have e : (start ["_law_box", "_law_things"] [.ref box, v]) = [some (.ref box), some v] := rfl
    rw [e]
    have hdraw : Pr (boxW box) (tCall sp_draw [] E0 (tCons (tVar 0) (tCons (tC (.int 900)) tNil))) [some (.ref box), some v] F H (.ex fun d => ∃ n : Nat, d = .int (n : Int) ∧ (n : Int) < 900) := pr_call (sg_draw boxIn (by decide)) (pra_cons (pr_var rfl) (pra_cons pr_int pra_nil))
    have hint : Pr (boxW box) (tCB (fun xs H Q => (∃ i, xs = [.int i] ∧ Q (.int i) H) ∨ ∃ k, xs = [.bl k] ∧ Q (.int (if k then 1 else 0)) H) (tCons (tCall sp_draw [] E0 (tCons (tVar 0) (tCons (tC (.int 900)) tNil))) tNil)) [some (.ref box), some v] F H (.ex fun d => ∃ n : Nat, d = .int (n : Int)) :=
      pr_cb (as := [.ex fun d => ∃ n : Nat, d = .int (n : Int) ∧ (n : Int) < 900]) (pra_cons hdraw pra_nil) fun F1 H1 vs sf i ha Q q => by
        obtain ⟨x, r, rfl, ⟨d, hd, n, rfl, hn⟩, rfl⟩ := ha
        cases hd
        exact .inl ⟨_, rfl, q F1 H1 _ (Gw.refl sf) ⟨_, .int _, n, rfl⟩⟩
    have hpos : 0 < ds.length := List.length_pos_iff.mpr hne
    have hmod : Pr (boxW box) (tOp (rI (fun _ j => 0 < j) fun i j => .int (i % j)) _ _) [some (.ref box), some v] F H (.ex fun d => ∃ n : Nat, d = .int (n : Int) ∧ n < ds.length) :=
      pr_op hint (pr_lenL (K := K) (pr_dt (i := 1) rfl hv)) fun F1 H1 x y sf i hx hy Q q => by
        obtain ⟨d, hd, n, rfl⟩ := hx
        cases hd
        cases hy
        refine ⟨_, _, rfl, rfl, by omega, q F1 H1 _ (Gw.refl sf) ⟨.int ((n % ds.length : Nat) : Int), ?_, n % ds.length, rfl, Nat.mod_lt _ hpos⟩⟩
        show Dt F1 (.int ((n : Int) % (ds.length : Int))) _
        rw [← Int.natCast_emod]
        exact .int _
    refine s_ret (W := boxW box) (F := F) (a := .ex fun d => d ∈ ds) sf hb (pr_ex (r := rIxL K) (a := .dt (.list ds)) (pr_dt rfl hv) hmod fun d ⟨n, e, hn⟩ F1 H1 x y sf i hx hy Q q => ?_) fun F1 H1 x g i hx => ?_
    · subst e
      cases hy
      cases hx with
      | @lst p xs _ h1 h2 =>
        obtain ⟨w, hw, dw⟩ := h2.get' (List.getElem?_eq_getElem hn)
        exact ⟨p, xs, _, w, rfl, rfl, SqL.of (sf _ _ h1), at_of rfl hw, q F1 H1 w (Gw.refl sf) ⟨_, dw, List.getElem_mem hn⟩⟩
    · obtain ⟨d, hd, hm⟩ := hx
      exact q F1 H1 x d g i hm hd
theorem sg_pick {W : Wd} {box : Addr} {ds : List PyData} (b : BoxIn W box) (hne : ds ≠ []) : Sg W sp_pick [.raw (.ref box), .dt (.list ds)] (.ex fun d => d ∈ ds) := fun F H vs sf i ha Q E q => by
  obtain ⟨v, r, rfl, rfl, x, r', rfl, hx, rfl⟩ := ha
  exact ⟨F, box, x, ds, rfl, sf, b.hI F H i, hx, hne, fun F' H' x d g hb hd hx => q F' H' _ (b.gw g) (b.hst _ _ _ _ g hb i) ⟨d, hx, hd⟩⟩

/-! ### _law_word -/
-- slots: 0 _law_k
abbrev s_l_word : Stmt := top 41
theorem sc_l_word : FnScope ["_law_k"] ["_law_k"] (defScope s_l_word) := ⟨rfl, rfl, rfl, by decide +kernel, rfl, by decide +kernel, by decide +kernel⟩
def sp_word : Sp := fun vs H Q _ => ∃ (F : Hp) (k : Nat), vs = [.int k] ∧ Same F H ∧ ∀ F' H', Gw [] F H F' H' → Q (.str (word k)) H'
theorem sg_word {W : Wd} {k : Nat} : Sg W sp_word [.dt (.int k)] (.dt (.str (word k))) := fun F H vs sf i ha Q E q => by
  obtain ⟨v, r, rfl, hv, rfl⟩ := ha
  cases hv
  exact ⟨F, k, rfl, sf, fun F' H' g => q F' H' _ g.pure (W.st _ _ _ _ g i) (.str _)⟩
theorem letter_at : ∀ j, j < 26 → letters.cps.toList[j]? = some (97 + j) := by decide +kernel
theorem ok_word (F : Df K mg "_law_word" s_l_word) (T : Txt K w mg C dl) : Cl P w K mg base CX0 1 "_law_word" sp_word := by
  refine cl_of F sc_l_word (fun vs H Q E h => ?_) (fun _ _ _ _ _ _ us hl => match us, hl with | [_], _ => rfl) fun f cdv A outer s H vs Q E hr h => ?_
  · obtain ⟨_, _, rfl, _⟩ := h
    rfl
  · obtain ⟨F, k, rfl, sf, q⟩ := h
    refine ⟨_, (pss_one (ps_ret (pe_op op_add_str pe_str (pe_ix ix_str pe_str (pe_op op_mod (pe_callTy call_int1 (by rfl) T.int_ boot_int (pa_cons (pv 0) pa_nil)) pe_int) (fun _ _ => rfl))))), ?_⟩
    have e : (start ["_law_k"] [.int (k : Int)]) = [some (.int (k : Int))] := rfl
    rw [e]
    have hk : k % 26 < 26 := Nat.mod_lt _ (by decide)
    have em : ((k : Int) % 26) = ((k % 26 : Nat) : Int) := by omega
    have pm : Pr w0 _ [some (.int (k : Int))] F H (.dt (.str ⟨#[97 + k % 26]⟩)) := pr_ixS (z := letters) (i := (k : Int) % 26) (n := k % 26) em (by decide +kernel) (letter_at _ hk) pr_str (pr_mod (by decide) (pr_toInt (pr_dt (i := 0) rfl (.int _))) pr_int)
    refine s_ret (W := w0) (F := F) (a := .dt (.str (word k))) sf True.intro (pr_to (pr_addS (x := "m") (y := ⟨#[97 + k % 26]⟩) (by show 1 + 1 ≤ 1000; decide) pr_str pm) rfl) fun F1 H1 x g _ hx => ?_
    cases hx
    exact q F1 H1 g
end
end K39
end

section
set_option Elab.async false
set_option linter.all false
set_option maxRecDepth 100000
set_option maxHeartbeats 4000000
namespace K39
open PySem PySem.Spec PyProof.Rows L2

section
variable {W : Wd} {σ : L2.St} {F H F1 H1 : Hp} {te ta tb tc to : TE} {tl tr : TA} {tt t u : TT} {a b c : Ar} {as : List Ar} {v w : V} {d e : PyData} {r : R2} {K : PySem.W.Frag} {D : Ends} {tu tw tz : TS}
/-- l.index(x), l a list of texts -/
theorem eqV_str (x y : Str) : eqV (.str x) (.str y) = (x == y) := by
  first
    | rfl
    | simp [eqV]
theorem pr_indexL {l : List Str} {s : Str} (hs : s ∈ l) (ho : Pr W to σ F H (.dt (.list (l.map .str)))) (h : Pr W te σ F H (.dt (.str s))) :
    Pr W (tBM K "list" (rIndex K) to (tCons te tNil)) σ F H (.dt (.int (ixOf l s : Nat))) := fun F1 H1 g i Q q =>
  ho F1 H1 g i _ fun F2 H2 v2 g2 i2 s2 => by
    cases s2 with
    | @lst p xs _ h1 h2 =>
      have e := h2.strs
      subst e
      refine ⟨.inl ⟨rfl, _, SqL.of (g2.fh _ _ h1)⟩, h F2 H2 (g.trans g2) i2 _ fun F3 H3 v3 g3 i3 s3 => ?_⟩
      cases s3
      have hg : (l.map V.str)[ixOf l s]? = some (.str s) := by rw [List.getElem?_map, ix_get hs]; rfl
      refine ⟨p, l.map V.str, .str s, ixOf l s, .str s, rfl, rfl, SqL.of (g3.fh _ _ (g3.ff _ _ h1)), rfl, flat_str l, hg, by rw [eqV_str]; simp, fun m z' hm hz => ?_, q F3 H3 _ (g2.trans g3) i3 (.int _)⟩
      rw [List.getElem?_map] at hz
      obtain ⟨y, hy, rfl⟩ := Option.map_eq_some_iff.mp hz
      rw [eqV_str]
      have hne : y ≠ s := fun z => ix_first hm (by rw [hy, z])
      simpa using hne
/-- a list display of whom something is known together -/
theorem pr_lstE {Pd : List PyData → Prop} (h : PrA W tl σ F H as) (hp : ∀ F vs, ArL F as vs → ∃ ds, DtA F vs ds ∧ Pd ds ∧ vs.length ≤ 1000) : Pr W (tLst tl) σ F H (.ex fun d => ∃ ds, d = .list ds ∧ Pd ds) := fun F1 H1 g i Q q =>
  h F1 H1 g i _ fun F2 H2 vs g2 i2 s2 => by
    obtain ⟨ds, h1, h2, h3⟩ := hp F2 vs s2
    refine ⟨sz1000 h3, fun p hp => ?_⟩
    have g3 : Gw [] F2 H2 (upd F2 p (.lst vs)) (upd H2 p (.lst vs)) := (Gw.refl g2.fh).frz hp
    exact q _ _ _ (g2.trans g3.pure) (W.st _ _ _ _ g3 i2) ⟨_, .lst upd_same (h1.mono g3.ff), ds, rfl, h2⟩
theorem pr_tupE {Pd : List PyData → Prop} (h : PrA W tl σ F H as) (hp : ∀ F vs, ArL F as vs → ∃ ds, DtA F vs ds ∧ Pd ds ∧ vs.length ≤ 1000) : Pr W (tTup tl) σ F H (.ex fun d => ∃ ds, d = .tuple ds ∧ Pd ds) := fun F1 H1 g i Q q =>
  h F1 H1 g i _ fun F2 H2 vs g2 i2 s2 => by
    obtain ⟨ds, h1, h2, h3⟩ := hp F2 vs s2
    refine ⟨sz1000 h3, fun p hp => ?_⟩
    have g3 : Gw [] F2 H2 (upd F2 p (.tup vs)) (upd H2 p (.tup vs)) := (Gw.refl g2.fh).frz hp
    exact q _ _ _ (g2.trans g3.pure) (W.st _ _ _ _ g3 i2) ⟨_, .tup (.inl upd_same) (h1.mono g3.ff), ds, rfl, h2⟩
theorem sg_pickE {box : Addr} {Pd : PyData → Prop} (b : BoxIn W box) : Sg W sp_pick [.raw (.ref box), .ex fun d => ∃ ds, d = .list ds ∧ ds ≠ [] ∧ ∀ x ∈ ds, Pd x] (.ex Pd) := fun F H vs sf i ha Q E q => by
  obtain ⟨v, r, rfl, rfl, x, r', rfl, ⟨d, hx, ds, rfl, hne, hp⟩, rfl⟩ := ha
  exact ⟨F, box, x, ds, rfl, sf, b.hI F H i, hx, hne, fun F' H' x d g hb hd hx => q F' H' _ (b.gw g) (b.hst _ _ _ _ g hb i) ⟨d, hx, hp d hd⟩⟩
theorem md_get (m : Md) : [PyData.list (m.marks.map .str), .list (m.rows.map Row.d), .int m.num, .int m.k] = [PyData.list (m.marks.map .str), .list (m.rows.map Row.d), .int m.num, .int m.k] := rfl
theorem pr_m0 {i : Nat} {m : Md} (h : σ[i]? = some (some v)) (hd : Dt F v m.d) : Pr W (tOp (rIxL K) (tVar i) (tC (.int 0))) σ F H (.dt (.list (m.marks.map .str))) := pr_ixL (n := 0) (ds := [PyData.list (m.marks.map .str), .list (m.rows.map Row.d), .int m.num, .int m.k]) rfl rfl (pr_dt h hd) pr_int
theorem pr_m1 {i : Nat} {m : Md} (h : σ[i]? = some (some v)) (hd : Dt F v m.d) : Pr W (tOp (rIxL K) (tVar i) (tC (.int 1))) σ F H (.dt (.list (m.rows.map Row.d))) := pr_ixL (n := 1) (ds := [PyData.list (m.marks.map .str), .list (m.rows.map Row.d), .int m.num, .int m.k]) rfl rfl (pr_dt h hd) pr_int
theorem pr_m2 {i : Nat} {m : Md} (h : σ[i]? = some (some v)) (hd : Dt F v m.d) : Pr W (tOp (rIxL K) (tVar i) (tC (.int 2))) σ F H (.dt (.int m.num)) := pr_ixL (n := 2) (ds := [PyData.list (m.marks.map .str), .list (m.rows.map Row.d), .int m.num, .int m.k]) rfl rfl (pr_dt h hd) pr_int
theorem pr_m3 {i : Nat} {m : Md} (h : σ[i]? = some (some v)) (hd : Dt F v m.d) : Pr W (tOp (rIxL K) (tVar i) (tC (.int 3))) σ F H (.dt (.int m.k)) := pr_ixL (n := 3) (ds := [PyData.list (m.marks.map .str), .list (m.rows.map Row.d), .int m.num, .int m.k]) rfl rfl (pr_dt h hd) pr_int
theorem pr_len0 {i : Nat} {m : Md} (h : σ[i]? = some (some v)) (hd : Dt F v m.d) : Pr W (tCB (fun xs H Q => ∃ p ys, xs = [.ref p] ∧ (SqL K H p ys ∨ SqT K H p ys) ∧ Q (.int ys.length) H) (tCons (tOp (rIxL K) (tVar i) (tC (.int 0))) tNil)) σ F H (.dt (.int m.marks.length)) := pr_to (pr_lenL (pr_m0 h hd)) (by rw [List.length_map])
theorem sh_row (r : Row) : Sh 3 r.d := sh_tup fun d hd => by
  simp only [List.mem_cons, List.not_mem_nil, or_false] at hd
  rcases hd with rfl | rfl
  · exact (sh_int _).mono (by decide)
  · exact sh_rd r
theorem eqv_nilL {d : PyData} {l : List PyData} : PyData.eqv (.list (d :: l)) (.list []) = false := by
  first
    | rfl
    | simp [PyData.eqv, PyData.eqvAll]
theorem eqv_nilL0 : PyData.eqv (.list []) (.list []) = true := by
  first
    | rfl
    | simp [PyData.eqv, PyData.eqvAll]
theorem eqv_list_nil (l : List PyData) : PyData.eqv (.list l) (.list []) = decide (l = []) := by
  cases l with
  | nil => rw [eqv_nilL0]; simp
  | cons d r => rw [eqv_nilL]; simp
end
section
variable {P : Program} {w : World} {K : PySem.W.Frag} {mg : Str → Option Value} {base : Heap} {C dl Cb fI : Addr}

/-! ### _law_deed -/
-- slots: 0 _law_box, 1 _law_model_here, 2 _law_kind, 3 _law_start, 4 _law_end, 5 _law_value
abbrev s_l_deed : Stmt := top 42
theorem sc_l_deed : FnScope ["_law_box", "_law_model_here", "_law_kind", "_law_start", "_law_end", "_law_value"] ["_law_box", "_law_model_here"] (defScope s_l_deed) := ⟨rfl, rfl, rfl, by decide +kernel, rfl, by decide +kernel, by decide +kernel⟩
def sp_deed : Sp := fun vs H Q _ => ∃ (F : Hp) (box : Addr) (v : V) (m : Md) (i : Nat), vs = [.ref box, v] ∧ Same F H ∧ BoxAt box F H ∧ Dt F v m.d ∧ Gen m i ∧ i < 80 ∧ ∀ F' H' x e, Gw [box] F H F' H' → BoxAt box F' H' → Good m i e → Dt F' x e.d → Q x H'
theorem sg_deed {W : Wd} {box : Addr} {m : Md} {i : Nat} (b : BoxIn W box) (g : Gen m i) (hi : i < 80) : Sg W sp_deed [.raw (.ref box), .dt m.d] (.ex fun d => ∃ e : Deed, d = e.d ∧ Good m i e) := fun F H vs sf iw ha Q E q => by
  obtain ⟨v, r, rfl, rfl, x, r', rfl, hx, rfl⟩ := ha
  exact ⟨F, box, x, m, i, rfl, sf, b.hI F H iw, hx, g, hi, fun F' H' y e g hb hg hy => q F' H' _ (b.gw g) (b.hst _ _ _ _ g hb iw) ⟨_, hy, e, rfl, hg⟩⟩
theorem end_ne {s k L : Nat} (hs : s < L) (hk : k < L - 1) : (s + 1 + k) % L < L ∧ (s + 1 + k) % L ≠ s := by
  refine ⟨Nat.mod_lt _ (by omega), ?_⟩
  rcases Nat.lt_or_ge (s + 1 + k) L with h | h
  · rw [Nat.mod_eq_of_lt h]; omega
  · rw [Nat.mod_eq_sub_mod h, Nat.mod_eq_of_lt (by omega)]; omega
theorem ok_deed (F : Df K mg "_law_deed" s_l_deed) (T : Txt K w mg C dl) (c__law_draw : Cl P w K mg base CX0 1 "_law_draw" sp_draw) (c__law_pick : Cl P w K mg base CX0 2 "_law_pick" sp_pick) (c__law_word : Cl P w K mg base CX0 1 "_law_word" sp_word) : Cl P w K mg base CX0 3 "_law_deed" sp_deed := by
  refine cl_of F sc_l_deed (fun vs H Q E h => ?_) (fun _ _ _ _ _ _ us hl => match us, hl with | [_, _], _ => rfl) fun f cdv A outer s H vs Q E hr h => ?_
  · obtain ⟨_, _, _, _, _, rfl, _⟩ := h
    rfl
  · obtain ⟨F, box, v, m, i, rfl, sf, hb, hv, gm, hi, q⟩ := h
    refine ⟨_, (pss_cons (ps_set (i := 2) sc_l_deed.nd rfl (Or.inl rfl) (pe_cl c__law_draw hr (by decide) rfl (pa_cons (pv 0) (pa_cons pe_int pa_nil)))) (pss_cons (ps_if (PW.pt (pw_or (pt_cmpR op_lt (pe_callB call_len_seq (by rfl) T.len_ PySem.boot_len (pa_cons (pe_ix (ix_listK K) (pv 1) pe_int (fun _ _ => rfl)) pa_nil)) pe_int (nomark _)) (pw_or1 (PW.pt (pw_and (pt_cmpR op_eq (pv 2) pe_int (nomark _)) (pw_and1 (pt_cmpR op_lt (pe_callB call_len_seq (by rfl) T.len_ PySem.boot_len (pa_cons (pe_ix (ix_listK K) (pv 1) pe_int (fun _ _ => rfl)) pa_nil)) pe_int (nomark _)))))))) (pss_one (ps_ret (pe_tup (pa_cons pe_str (pa_cons (pe_cl c__law_word hr (by decide) rfl (pa_cons (pe_op op_add (pe_callB call_len_seq (by rfl) T.len_ PySem.boot_len (pa_cons (pe_ix (ix_listK K) (pv 1) pe_int (fun _ _ => rfl)) pa_nil)) (pe_op op_mul pe_int (pe_callTy call_int1 (by rfl) T.int_ boot_int (pa_cons (pe_cmpR op_gt (pe_callB call_len_seq (by rfl) T.len_ PySem.boot_len (pa_cons (pe_ix (ix_listK K) (pv 1) pe_int (fun _ _ => rfl)) pa_nil)) pe_int (nomark _)) pa_nil)))) pa_nil)) pa_nil))))) pss_nil) (pss_cons (ps_if (PW.pt (pw_and (pt_cmpR op_eq (pv 2) pe_int (nomark _)) (pw_and1 (pt_cmpR (op_neD hr.units) (pe_ix (ix_listK K) (pv 1) pe_int (fun _ _ => rfl)) (pe_lst pa_nil) (nomark _))))) (pss_one (ps_ret (pe_tup (pa_cons pe_str (pa_cons (pe_ix (ix_tupK K) (pe_cl c__law_pick hr (by decide) rfl (pa_cons (pv 0) (pa_cons (pe_ix (ix_listK K) (pv 1) pe_int (fun _ _ => rfl)) pa_nil))) pe_int (fun _ _ => rfl)) pa_nil))))) pss_nil) (pss_cons (ps_if (pt_cmpR op_eq (pv 2) pe_int (nomark _)) (pss_one (ps_ret (pe_tup (pa_cons pe_str (pa_cons (pe_cl c__law_draw hr (by decide) rfl (pa_cons (pv 0) (pa_cons pe_int pa_nil))) pa_nil))))) pss_nil) (pss_cons (ps_set (i := 3) sc_l_deed.nd rfl (Or.inl rfl) (pe_cl c__law_draw hr (by decide) rfl (pa_cons (pv 0) (pa_cons (pe_callB call_len_seq (by rfl) T.len_ PySem.boot_len (pa_cons (pe_ix (ix_listK K) (pv 1) pe_int (fun _ _ => rfl)) pa_nil)) pa_nil)))) (pss_cons (ps_set (i := 4) sc_l_deed.nd rfl (Or.inl rfl) (pe_op op_mod (pe_callTy call_int1 (by rfl) T.int_ boot_int (pa_cons (pe_op op_add (pe_op op_add (pv 3) pe_int) (pe_cl c__law_draw hr (by decide) rfl (pa_cons (pv 0) (pa_cons (pe_op op_sub (pe_callB call_len_seq (by rfl) T.len_ PySem.boot_len (pa_cons (pe_ix (ix_listK K) (pv 1) pe_int (fun _ _ => rfl)) pa_nil)) pe_int) pa_nil)))) pa_nil)) (pe_callB call_len_seq (by rfl) T.len_ PySem.boot_len (pa_cons (pe_ix (ix_listK K) (pv 1) pe_int (fun _ _ => rfl)) pa_nil)))) (pss_cons (ps_set (i := 5) sc_l_deed.nd rfl (Or.inl rfl) (pe_cl c__law_pick hr (by decide) rfl (pa_cons (pv 0) (pa_cons (pe_lst (pa_cons pe_int (pa_cons (pe_op op_mul pe_int (pe_op op_sub (pv 4) (pv 3))) (pa_cons (pe_op op_mul pe_int (pe_op op_sub (pv 4) (pv 3))) (pa_cons (pe_op op_sub (pe_cl c__law_draw hr (by decide) rfl (pa_cons (pv 0) (pa_cons pe_int pa_nil))) pe_int) (pa_cons pe_int (pa_cons (pe_un un_neg pe_int) pa_nil))))))) pa_nil)))) (pss_one (ps_ret (pe_tup (pa_cons pe_str (pa_cons (pe_ix (ix_listK K) (pe_ix (ix_listK K) (pv 1) pe_int (fun _ _ => rfl)) (pv 3) (fun _ _ => rfl)) (pa_cons (pe_ix (ix_listK K) (pe_ix (ix_listK K) (pv 1) pe_int (fun _ _ => rfl)) (pv 4) (fun _ _ => rfl)) (pa_cons (pv 5) pa_nil)))))))))))))), ?_⟩
    have e : (start ["_law_box", "_law_model_here", "_law_kind", "_law_start", "_law_end", "_law_value"] [.ref box, v]) = [some (.ref box), some v, none, none, none, none] := rfl
    rw [e]
    have fin : ∀ {te : TE} {σ : L2.St} {D : Ends} {F1 H1 : Hp} {e : PyData → Prop}, D.rt = Q → Gw [box] F H F1 H1 → BoxAt box F1 H1 → Pr (boxW box) te σ F1 H1 (.ex e) → (∀ d, e d → ∃ x, d = Deed.d x ∧ Good m i x) → tRet te D σ H1 := fun {te σ D F1 H1 e} hD g b h he => by
      refine s_ret (W := boxW box) (F := F1) g.fh b h ?_
      intro F2 H2 y g2 i2 hy
      obtain ⟨d, hd, hp⟩ := hy
      obtain ⟨x, rfl, hg⟩ := he d hp
      rw [hD]
      exact q F2 H2 y x (g.trans g2) i2 hg hd
    -- kind
    refine q_set (W := boxW box) (F := F) sf hb (pr_call (sg_draw boxIn (many := 9) (by decide)) (pra_cons (pr_var rfl) (pra_cons pr_int pra_nil))) fun F1 H1 v1 g1 i1 s1 => ?_
    obtain ⟨d1, hd1, kd, rfl, hkd⟩ := s1
    cases hd1
    have hv1 := hv.mono g1.ff
    -- a mark
    refine q_when (W := boxW box) (F := F1) (b := decide (((m.marks.length : Nat) : Int) < 2) || (decide ((kd : Int) = 0) && decide (((m.marks.length : Nat) : Int) < 8))) g1.fh i1
      (prt_or (prt_test (pr_lt (pr_len0 (i := 1) rfl hv1) pr_int)) fun _ => prt_and (prt_test (pr_eqI (pr_dt (i := 2) rfl (.int _)) pr_int)) fun _ => prt_test (pr_lt (pr_len0 (i := 1) rfl hv1) pr_int)) (fun hc F2 H2 g2 i2 => ?_) (fun hc F2 H2 g2 i2 => ?_)
    · have hlt : m.marks.length < 8 := by
        simp only [Bool.or_eq_true, Bool.and_eq_true, decide_eq_true_eq] at hc
        omega
      have hv2 := hv1.mono g2.ff
      have harg : Pr (boxW box) _ [some (.ref box), some v, some (.int (kd : Int)), none, none, none] F2 H2 (.dt (.int ((if 3 < m.marks.length then m.marks.length + 9 else m.marks.length : Nat) : Int))) :=
        pr_to (pr_add (pr_len0 (i := 1) (K := K) rfl hv2) (pr_mul (by decide) (pr_int (n := 9)) (pr_toIntB (pr_gt (pr_len0 (i := 1) (K := K) rfl hv2) (pr_int (n := 3)))))) (by
          congr 1
          by_cases h : 3 < m.marks.length
          · rw [if_pos h, if_pos (decide_eq_true (by omega))]; omega
          · rw [if_neg h, if_neg (by simp; omega)]; omega)
      refine fin rfl (g1.trans g2) i2 (e := fun d => d = (Deed.mark (gname m.marks.length)).d) ?_ (fun d hd => ⟨_, hd, good_mark gm hlt⟩)
      exact Pr.imp (pr_tup (prd_cons pr_str (prd_cons (pr_call sg_word (pra_cons harg pra_nil)) prd_nil)) (by simp only [List.length]; omega)) fun F v h => ⟨_, h, rfl⟩
    · have hge : 2 ≤ m.marks.length := by
        simp only [Bool.or_eq_false_iff, decide_eq_false_iff_not] at hc
        omega
      have hv2 := hv1.mono g2.ff
      have g12 := g1.trans g2
      -- a drop
      refine q_when (W := boxW box) (F := F2) (b := decide ((kd : Int) = 1) && !decide (m.rows.map Row.d = [])) g2.fh i2
        (prt_and (prt_test (pr_eqI (pr_dt (i := 2) rfl (.int _)) pr_int)) fun _ => prt_to (prt_test (pr_neD (sh_lst (n := 3) (fun d hd => by
          obtain ⟨r, _, rfl⟩ := List.mem_map.mp hd
          exact sh_row r) |>.ok (by decide)) (sh_lst (n := 1) (ds := []) (fun _ h => nomatch h) |>.ok (by decide)) (pr_m1 (i := 1) rfl hv2) (pr_lst prd_nil (Nat.zero_le _)))) (by rw [eqv_list_nil])) (fun hc F3 H3 g3 i3 => ?_) (fun hc F3 H3 g3 i3 => ?_)
      · have hne : m.rows.map Row.d ≠ [] := by
          simp only [Bool.and_eq_true, Bool.not_eq_true', decide_eq_false_iff_not] at hc
          exact hc.2
        have hv3 := hv2.mono g3.ff
        refine fin rfl (g12.trans g3) i3 (e := fun d => ∃ ds, d = .tuple ds ∧ ∃ r ∈ m.rows, ds = [.str "drop", .int r.n]) (pr_tupE (as := [.dt (.str "drop"), .ex fun d => ∃ r ∈ m.rows, d = .int r.n]) (pra_cons pr_str (pra_cons ?_ pra_nil)) ?_) ?_
        · refine pr_op (a := .ex fun d => d ∈ m.rows.map Row.d) (b := .dt (.int 0)) (pr_call (sg_pick boxIn hne) (pra_cons (pr_var rfl) (pra_cons (pr_m1 (i := 1) rfl hv3) pra_nil))) pr_int fun F4 H4 x y sf4 _ hx hy Q q => ?_
          obtain ⟨d, hd, hm⟩ := hx
          obtain ⟨r, hr, rfl⟩ := List.mem_map.mp hm
          cases hy
          cases hd with
          | @tup p xs _ h1 h2 =>
            cases h2 with
            | cons q1 _ =>
              cases q1
              refine ⟨p, _, 0, .int r.n, rfl, rfl, sqt_rd (rd_mono sf4 h1), ?_, q F4 H4 _ (Gw.refl sf4) ⟨_, .int _, r, hr, rfl⟩⟩
              exact at_of (j := 0) rfl rfl
        · rintro F4 vs ⟨v, r, rfl, hv, v2, r2, rfl, ⟨d, hd, row, hr, rfl⟩, rfl⟩
          exact ⟨_, .cons hv (.cons hd .nil), ⟨row, hr, rfl⟩, by simp only [List.length]; omega⟩
        · rintro d ⟨ds, rfl, r, hr, rfl⟩
          exact ⟨.drop r.n, rfl, good_drop gm hr⟩
      · have hv3 := hv2.mono g3.ff
        have g13 := g12.trans g3
        -- a bound
        refine q_when (W := boxW box) (F := F3) (b := decide ((kd : Int) = 2)) g3.fh i3 (prt_test (pr_eqI (pr_dt (i := 2) rfl (.int _)) pr_int)) (fun _ F4 H4 g4 i4 => ?_) (fun _ F4 H4 g4 i4 => ?_)
        · refine fin rfl (g13.trans g4) i4 (e := fun d => ∃ ds, d = .tuple ds ∧ ∃ n : Nat, n < 4 ∧ ds = [.str "bound", .int n]) (pr_tupE (as := [.dt (.str "bound"), .ex fun d => ∃ n : Nat, d = .int (n : Int) ∧ (n : Int) < 4]) (pra_cons pr_str (pra_cons (pr_call (sg_draw boxIn (by decide)) (pra_cons (pr_var rfl) (pra_cons pr_int pra_nil))) pra_nil)) ?_) ?_
          · rintro F5 vs ⟨v, r, rfl, hv, v2, r2, rfl, ⟨d, hd, n, rfl, hn⟩, rfl⟩
            exact ⟨_, .cons hv (.cons hd .nil), ⟨n, by omega, rfl⟩, by simp only [List.length]; omega⟩
          · rintro d ⟨ds, rfl, n, hn, rfl⟩
            exact ⟨.bound n, rfl, good_bound gm (by omega) (by omega)⟩
        · have hv4 := hv3.mono g4.ff
          have g14 := g13.trans g4
          -- start, end
          refine q_set (W := boxW box) (F := F4) g4.fh i4 (pr_call (sg_draw boxIn (many := (m.marks.length : Nat)) (by omega)) (pra_cons (pr_var rfl) (pra_cons (pr_len0 (i := 1) rfl hv4) pra_nil))) fun F5 H5 v5 g5 i5 s5 => ?_
          obtain ⟨d5, hd5, st, rfl, hst⟩ := s5
          cases hd5
          have hst' : st < m.marks.length := by omega
          have hv5 := hv4.mono g5.ff
          refine q_set (W := boxW box) (F := F5) (a := .ex fun d => ∃ en : Nat, d = .int (en : Int) ∧ en < m.marks.length ∧ en ≠ st) g5.fh i5 ?_ fun F6 H6 v6 g6 i6 s6 => ?_
          · refine pr_op (a := .ex fun d => ∃ k : Nat, d = .int ((st + 1 + k : Nat) : Int) ∧ k < m.marks.length - 1) (b := .dt (.int m.marks.length)) ?_ (pr_len0 (i := 1) rfl hv5) fun F6 H6 x y sf6 _ hx hy Q q => ?_
            · refine pr_cb (as := [.ex fun d => ∃ k : Nat, d = .int ((st + 1 + k : Nat) : Int) ∧ k < m.marks.length - 1]) (pra_cons ?_ pra_nil) fun F6 H6 vs sf6 _ ha Q q => ?_
              · refine pr_op (a := .dt (.int ((st : Int) + 1))) (b := .ex fun d => ∃ n : Nat, d = .int (n : Int) ∧ (n : Int) < (m.marks.length : Int) - 1) (pr_add (pr_dt (i := 3) rfl (.int _)) pr_int) (pr_call (sg_draw boxIn (by omega)) (pra_cons (pr_var rfl) (pra_cons (pr_sub (pr_len0 (i := 1) rfl hv5) pr_int) pra_nil))) fun F6 H6 x y sf6 _ hx hy Q q => ?_
                cases hx
                obtain ⟨d, hd, k, rfl, hk⟩ := hy
                cases hd
                refine ⟨_, _, rfl, rfl, q F6 H6 _ (Gw.refl sf6) ⟨.int ((st + 1 + k : Nat) : Int), ?_, k, rfl, by omega⟩⟩
                have ez : (st : Int) + 1 + (k : Int) = ((st + 1 + k : Nat) : Int) := by omega
                show Dt F6 (.int ((st : Int) + 1 + (k : Int))) _
                rw [ez]
                exact .int _
              · obtain ⟨x, r, rfl, ⟨d, hd, k, rfl, hk⟩, rfl⟩ := ha
                cases hd
                exact .inl ⟨_, rfl, q F6 H6 _ (Gw.refl sf6) ⟨_, .int _, k, rfl, hk⟩⟩
            · obtain ⟨d, hd, k, rfl, hk⟩ := hx
              cases hd
              cases hy
              have hh := end_ne hst' hk
              refine ⟨_, _, rfl, rfl, by omega, q F6 H6 _ (Gw.refl sf6) ⟨.int (((st + 1 + k) % m.marks.length : Nat) : Int), ?_, _, rfl, hh.1, hh.2⟩⟩
              show Dt F6 (.int (((st + 1 + k : Nat) : Int) % (m.marks.length : Int))) _
              rw [← Int.natCast_emod]
              exact .int _
          · obtain ⟨d6, hd6, en, rfl, hen, hne⟩ := s6
            cases hd6
            have hv6 := hv5.mono g6.ff
            -- value
            have hdiff : ∀ {F H : Hp} {o : Option V}, Pr (boxW box) (tOp (rI CMul fun i j => .int (i * j)) (tC (.int 5)) (tOp (rI0 fun i j => .int (i - j)) (tVar 4) (tVar 3))) [some (.ref box), some v, some (.int (kd : Int)), some (.int (st : Int)), some (.int (en : Int)), o] F H (.dt (.int (5 * ((en : Int) - (st : Int))))) :=
              pr_mul (by decide) pr_int (pr_sub (pr_dt (i := 4) rfl (.int _)) (pr_dt (i := 3) rfl (.int _)))
            have few := gm.few
            refine q_set (W := boxW box) (F := F6) (a := .ex fun d => ∃ z : Int, d = .int z ∧ (-1000000 ≤ z ∧ z ≤ 1000000)) g6.fh i6 (pr_call (sg_pickE boxIn) (pra_cons (pr_var rfl) (pra_cons (pr_lstE (Pd := fun ds => ds ≠ [] ∧ ∀ x ∈ ds, ∃ z : Int, x = .int z ∧ (-1000000 ≤ z ∧ z ≤ 1000000)) (as := [.dt (.int 0), .dt (.int (5 * ((en : Int) - (st : Int)))), .dt (.int (5 * ((en : Int) - (st : Int)))), .ex fun d => ∃ n : Nat, d = .int ((n : Int) - 30) ∧ (n : Int) < 60, .dt (.int 1000000), .dt (.int (-1000000))])
              (pra_cons pr_int (pra_cons hdiff (pra_cons hdiff (pra_cons ?_ (pra_cons pr_int (pra_cons (pr_neg pr_int) pra_nil)))))) ?_) pra_nil))) fun F7 H7 v7 g7 i7 s7 => ?_
            · refine pr_op (a := .ex fun d => ∃ n : Nat, d = .int (n : Int) ∧ (n : Int) < 60) (b := .dt (.int 30)) (pr_call (sg_draw boxIn (by decide)) (pra_cons (pr_var rfl) (pra_cons pr_int pra_nil))) pr_int fun F7 H7 x y sf7 _ hx hy Q q => ?_
              obtain ⟨d, hd, n, rfl, hn⟩ := hx
              cases hd
              cases hy
              exact ⟨_, _, rfl, rfl, q F7 H7 _ (Gw.refl sf7) ⟨_, .int _, n, rfl, hn⟩⟩
            · rintro F7 vs ⟨x1, _, rfl, h1, x2, _, rfl, h2, x3, _, rfl, h3, x4, _, rfl, ⟨d4, h4, n, rfl, hn⟩, x5, _, rfl, h5, x6, _, rfl, h6, rfl⟩
              refine ⟨_, .cons h1 (.cons h2 (.cons h3 (.cons h4 (.cons h5 (.cons h6 .nil))))), ⟨by simp, fun x hx => ?_⟩, by simp only [List.length]; omega⟩
              simp only [List.mem_cons, List.not_mem_nil, or_false] at hx
              rcases hx with rfl | rfl | rfl | rfl | rfl | rfl
              · exact ⟨_, rfl, by omega⟩
              · exact ⟨_, rfl, by omega⟩
              · exact ⟨_, rfl, by omega⟩
              · exact ⟨_, rfl, by omega⟩
              · exact ⟨_, rfl, by omega⟩
              · exact ⟨_, rfl, by omega⟩
            · obtain ⟨d7, hd7, z, rfl, hz⟩ := s7
              cases hd7
              have hv7 := hv6.mono g7.ff
              refine fin rfl (((g14.trans g5).trans g6).trans g7) i7 (e := fun d => d = (Deed.read m.marks[st] m.marks[en] z).d) ?_ (fun d hd => ⟨_, hd, good_read gm hi hst' hen (Ne.symm hne) hz⟩)
              refine Pr.imp (pr_tup (prd_cons pr_str (prd_cons (pr_ixL (n := st) (d := .str m.marks[st]) rfl (by rw [List.getElem?_map, List.getElem?_eq_getElem hst']; rfl) (pr_m0 (i := 1) rfl hv7) (pr_dt (i := 3) rfl (.int _))) (prd_cons (pr_ixL (n := en) (d := .str m.marks[en]) rfl (by rw [List.getElem?_map, List.getElem?_eq_getElem hen]; rfl) (pr_m0 (i := 1) rfl hv7) (pr_dt (i := 4) rfl (.int _))) (prd_cons (pr_dt (i := 5) rfl (.int z)) prd_nil)))) (by simp only [List.length]; omega)) fun F v h => ⟨_, h, rfl⟩
end
end K39
end

section
set_option Elab.async false
set_option linter.all false
set_option maxRecDepth 100000
set_option maxHeartbeats 4000000
namespace K39
open PySem PySem.Spec PyProof.Rows L2

section
variable {W : Wd} {σ : L2.St} {F H F1 H1 : Hp} {te ta tb tc to : TE} {tl tr : TA} {tt t u : TT} {a b c : Ar} {as : List Ar} {v w : V} {d e : PyData} {r : R2} {K : PySem.W.Frag} {D : Ends} {tu tw tz : TS}
theorem at_z {xs : List V} {x : V} : atI (x :: xs) 0 = some x := at_of (j := 0) rfl rfl
/-- items of a list of four -/
theorem lst4 {m : Md} (h : Dt F v m.d) : ∃ a x0 x1, v = .ref a ∧ F a = some (.lst [x0, x1, .int m.num, .int m.k]) ∧ Dt F x0 (.list (m.marks.map .str)) ∧ Dt F x1 (.list (m.rows.map Row.d)) := by
  cases h with
  | @lst p xs _ h1 h2 =>
    cases h2 with
    | cons q0 h2 => cases h2 with
      | cons q1 h2 => cases h2 with
        | cons q2 h2 => cases h2 with
          | cons q3 h2 =>
            cases h2
            cases q2
            cases q3
            exact ⟨p, _, _, rfl, h1, q0, q1⟩
theorem row_pair {r : Row} (h : Dt F v r.d) : ∃ a y, v = .ref a ∧ Rd F a (.tup [.int r.n, y]) ∧ Dt F y r.rd := by
  cases h with
  | @tup p xs _ h1 h2 =>
    cases h2 with
    | cons q0 h2 => cases h2 with
      | cons q1 h2 =>
        cases h2
        cases q0
        exact ⟨p, _, rfl, h1, q1⟩
theorem s_forL {g : TG} {items : List PyData} (sf : Same F H) (iw : W.I F H) (h : Pr W te σ F H (.dt (.list items)))
    (k : ∀ F1 H1, Gw W.M F H F1 H1 → W.I F1 H1 → ∃ Pv : Nat → L2.St → Hp → Prop, Pv 0 σ H1 ∧ (∀ i σ' H', Pv i σ' H' → Same F1 H') ∧
      (∀ i d x σ' H', items[i]? = some d → Dt F1 x d → Pv i σ' H' → g x σ' H' fun σ2 H2 => tu { D with nx := Pv (i + 1), ct := Pv (i + 1), bk := D.nx } σ2 H2) ∧ ∀ σ' H', Pv items.length σ' H' → D.nx σ' H') : tFor (iList K te) g tu D σ H :=
  h F H (Gw.refl sf) iw _ fun F1 H1 v g1 i1 s1 => by
    obtain ⟨Pv, p0, p1, p2, p3⟩ := k F1 H1 g1 i1
    cases s1 with
    | @lst a xs _ h1 h2 =>
      refine ⟨a, rfl, ⟨xs, SqL.of (g1.fh _ _ h1)⟩, for_list (K := K) (a := a) (xs := xs) Pv p0 (fun i σ' H' _ p => SqL.of (p1 i σ' H' p _ _ h1)) (fun i x σ' H' hx p => ?_) (by rw [h2.len]; exact p3)⟩
      obtain ⟨d, hd, dx⟩ := h2.get hx
      exact p2 i d x σ' H' hd dx p
/-- x not in l, l a list that stands unfrozen, of data -/
theorem pr_notInO {l : Addr} {xs : List V} {ds : List PyData} {i : Nat} (hI : ∀ F H, W.I F H → H l = some (.lst xs)) (h : σ[i]? = some (some (.ref l))) (hx : DtA F xs ds) (hd : SeqAt.shaped d = true) (he : SeqAt.shaped (.list ds) = true) (ha : Pr W ta σ F H (.dt d)) : Pr W (tOp (rNotInD K) ta (tVar i)) σ F H (.dt (.bool (!ds.any fun z => PyData.eqv z d))) := fun F1 H1 g iw Q q =>
  ha F1 H1 g iw _ fun F2 H2 x g2 i2 s2 => ⟨_, h, d, ds, s2.dp g2.fh, .lst (SqL.of (hI _ _ i2)) ((hx.mono (g.trans g2).ff).dp g2.fh), hd, he, q F2 H2 _ g2 i2 (.bl _)⟩
end
section
variable {P : Program} {w : World} {K : PySem.W.Frag} {mg : Str → Option Value} {base : Heap} {C dl Cb fI : Addr}

/-! ### _law_done -/
-- slots: 0 _law_model_here, 1 _law_deed_here (cell), 2 _law_marks, 3 _law_rows, 4 _law_number, 5 _law_most, 6 _law_reading, 7 _law_row
abbrev s_l_done : Stmt := top 43
theorem sc_l_done : FnScope ["_law_model_here", "_law_deed_here", "_law_marks", "_law_rows", "_law_number", "_law_most", "_law_reading", "_law_row"] ["_law_model_here", "_law_deed_here"] (defScope s_l_done) := ⟨rfl, rfl, rfl, by decide +kernel, rfl, by decide +kernel, by decide +kernel⟩
def named (m : Md) : Deed → Prop
  | .read s t _ => s ∈ m.marks ∧ t ∈ m.marks
  | _ => True
def sp_done : Sp := fun vs H Q _ => ∃ (F : Hp) (v1 v2 : V) (m : Md) (e : Deed), vs = [v1, v2] ∧ Same F H ∧ Dt F v1 m.d ∧ Dt F v2 e.d ∧ named m e ∧ m.marks.length ≤ 1000 ∧ m.rows.length ≤ 1000 ∧ ∀ F' H' v, Gw [] F H F' H' → Dt F' v (step m e).d → Q v H'
theorem sg_done {W : Wd} {m : Md} {e : Deed} (hn : named m e) (h1 : m.marks.length ≤ 1000) (h2 : m.rows.length ≤ 1000) : Sg W sp_done [.dt m.d, .dt e.d] (.dt (step m e).d) := fun F H vs sf iw ha Q E q => by
  obtain ⟨v, r, rfl, hv, x, r', rfl, hx, rfl⟩ := ha
  exact ⟨F, v, x, m, e, rfl, sf, hv, hx, hn, h1, h2, fun F' H' v g hv => q F' H' v g.pure (W.st _ _ _ _ g iw) hv⟩
theorem ok_done (F : Df K mg "_law_done" s_l_done) (T : Txt K w mg C dl) : Cl P w K mg base CX0 1 "_law_done" sp_done := by
  refine cl_of F sc_l_done (fun vs H Q E h => ?_) (fun _ _ _ _ _ _ us hl => match us, hl with | [_, _], _ => rfl) fun f cdv A outer s H vs Q E hr h => ?_
  · obtain ⟨_, _, _, _, _, rfl, _⟩ := h
    rfl
  · obtain ⟨F, v1, v2, m, e, rfl, sf, hm, he, hn, hl1, hl2, q⟩ := h
    refine ⟨_, (pss_cons (ps_asg (pv 0) (pg_lst rfl (pgs_cons (pg_name (i := 2) sc_l_done.nd rfl (Or.inl rfl)) (pgs_cons (pg_name (i := 3) sc_l_done.nd rfl (Or.inl rfl)) (pgs_cons (pg_name (i := 4) sc_l_done.nd rfl (Or.inl rfl)) (pgs_cons (pg_name (i := 5) sc_l_done.nd rfl (Or.inl rfl)) pgs_nil)))))) (pss_cons (ps_if (pt_cmpR op_eq (pe_ix (ix_tupK K) (pv 1) pe_int (fun _ _ => rfl)) pe_str (nomark _)) (pss_one (ps_ret (pe_lst (pa_cons (pe_op op_cat (pv 2) (pe_lst (pa_cons (pe_ix (ix_tupK K) (pv 1) pe_int (fun _ _ => rfl)) pa_nil))) (pa_cons (pv 3) (pa_cons (pv 4) (pa_cons (pv 5) pa_nil))))))) pss_nil) (pss_cons (ps_if (pt_cmpR op_eq (pe_ix (ix_tupK K) (pv 1) pe_int (fun _ _ => rfl)) pe_str (nomark _)) (pss_cons (ps_set (i := 6) sc_l_done.nd rfl (Or.inl rfl) (pe_tup (pa_cons (pe_bm PySem.F.plainAttrs_list PySem.F.slot_list_index PySem.F.type_list_index mt_index (pv 2) (pa_cons (pe_ix (ix_tupK K) (pv 1) pe_int (fun _ _ => rfl)) pa_nil)) (pa_cons (pe_bm PySem.F.plainAttrs_list PySem.F.slot_list_index PySem.F.type_list_index mt_index (pv 2) (pa_cons (pe_ix (ix_tupK K) (pv 1) pe_int (fun _ _ => rfl)) pa_nil)) (pa_cons (pe_ix (ix_tupK K) (pv 1) pe_int (fun _ _ => rfl)) pa_nil))))) (pss_one (ps_ret (pe_lst (pa_cons (pv 2) (pa_cons (pe_op op_cat (pv 3) (pe_lst (pa_cons (pe_tup (pa_cons (pv 4) (pa_cons (pv 6) pa_nil))) pa_nil))) (pa_cons (pe_op op_add (pv 4) pe_int) (pa_cons (pv 5) pa_nil)))))))) pss_nil) (pss_cons (ps_if (pt_cmpR op_eq (pe_ix (ix_tupK K) (pv 1) pe_int (fun _ _ => rfl)) pe_str (nomark _)) (pss_one (ps_ret (pe_lst (pa_cons (pv 2) (pa_cons (pe_lc (own := [("_law_row", 7)]) (g := gName 7) rfl sc_l_done.nd (pi_list (pv 3)) (blkOk_by (N := ["_law_model_here", "_law_deed_here", "_law_marks", "_law_rows", "_law_number", "_law_most", "_law_reading", "_law_row"]) (sc := defScope s_l_done) (by decide +kernel)) (fun _ _ _ _ _ => pg_name (i := 7) sc_l_done.nd rfl (Or.inl rfl)) (fun _ _ _ _ _ => pts_one (pt_cmpR op_ne (pe_ix (ix_tupK K) (pv 7) pe_int (fun _ _ => rfl)) (pe_ix (ix_tupK K) (pv 1) pe_int (fun _ _ => rfl)) (nomark _))) (fun _ _ _ _ _ => (pv 7))) (pa_cons (pv 4) (pa_cons (pv 5) pa_nil))))))) pss_nil) (pss_one (ps_ret (pe_lst (pa_cons (pv 2) (pa_cons (pv 3) (pa_cons (pv 4) (pa_cons (pe_ix (ix_tupK K) (pv 1) pe_int (fun _ _ => rfl)) pa_nil))))))))))), ?_⟩
    have e0 : (start ["_law_model_here", "_law_deed_here", "_law_marks", "_law_rows", "_law_number", "_law_most", "_law_reading", "_law_row"] [v1, v2]) = [some v1, some v2, none, none, none, none, none, none] := rfl
    rw [e0]
    obtain ⟨a, x0, x1, rfl, ha, h0, h1⟩ := lst4 hm
    refine q_asg ⟨_, rfl, a, _, rfl, SqL.of (sf _ _ ha), rfl, _, _, rfl, _, _, rfl, _, _, rfl, _, _, rfl, rfl, ?_⟩
    show tSeq _ _ _ [some (.ref a), some v2, some x0, some x1, some (.int m.num), some (.int m.k), none, none] H
    have i0 : ∀ {F1 H1 : Hp} {k : Str} {r : List PyData} {o6 o7 : Option V}, e.d = .tuple (.str k :: r) → Same F F1 → Pr w0 (tOp (rIxT K) (tVar 1) (tC (.int 0))) [some (.ref a), some v2, some x0, some x1, some (.int m.num), some (.int m.k), o6, o7] F1 H1 (.dt (.str k)) := fun hk g => pr_ixT (n := 0) rfl rfl (pr_dt rfl (hk ▸ he.mono g)) pr_int
    have fin : ∀ {te : TE} {σ : L2.St} {D : Ends} {F1 H1 : Hp}, D.rt = Q → Gw [] F H F1 H1 → Pr w0 te σ F1 H1 (.dt (step m e).d) → tRet te D σ H1 := fun {te σ D F1 H1} hD g h => by
      refine s_ret (W := w0) (F := F1) g.fh True.intro h ?_
      intro F2 H2 y g2 _ hy
      rw [hD]
      exact q F2 H2 y (g.trans g2) hy
    cases e with
    | mark s =>
      refine q_when (W := w0) (F := F) (b := true) sf True.intro (prt_to (prt_test (pr_eqS (i0 rfl (Same.refl _)) pr_str)) (decide_eq_true rfl)) (fun _ F1 H1 g1 _ => ?_) (fun z => nomatch z)
      refine fin rfl g1 (pr_to (pr_lst (ds := [.list (m.marks.map .str ++ [.str s]), .list (m.rows.map Row.d), .int m.num, .int m.k]) (prd_cons (pr_catL (es := [.str s]) (by rw [List.length_map]; simp only [List.length]; omega) (pr_dt (i := 2) rfl (h0.mono g1.ff)) (pr_lst (prd_cons (pr_ixT (n := 1) (ds := [.str "mark", .str s]) rfl rfl (pr_dt (i := 1) rfl (he.mono g1.ff)) pr_int) prd_nil) (by simp only [List.length]; omega)))
        (prd_cons (pr_dt (i := 3) rfl (h1.mono g1.ff)) (prd_cons (pr_dt (i := 4) rfl (.int _)) (prd_cons (pr_dt (i := 5) rfl (.int _)) prd_nil)))) (by simp only [List.length]; omega)) ?_)
      show _ = PyData.list [.list ((m.marks ++ [s]).map .str), .list (m.rows.map Row.d), .int m.num, .int m.k]
      rw [List.map_append]; rfl
    | read s t z =>
      refine q_when (W := w0) (F := F) (b := false) sf True.intro (prt_to (prt_test (pr_eqS (i0 rfl (Same.refl _)) pr_str)) (decide_eq_false n_rm)) (fun z => nomatch z) (fun _ F1 H1 g1 _ => ?_)
      refine q_when (W := w0) (F := F1) (b := true) g1.fh True.intro (prt_to (prt_test (pr_eqS (i0 rfl g1.ff) pr_str)) (decide_eq_true rfl)) (fun _ F2 H2 g2 _ => ?_) (fun z => nomatch z)
      have g12 := g1.trans g2
      refine q_set (W := w0) (F := F2) (a := .dt (Row.rd ⟨m.num, ixOf m.marks s, ixOf m.marks t, z⟩)) g2.fh True.intro (pr_tup (prd_cons (pr_indexL hn.1 (pr_dt (i := 2) rfl (h0.mono g12.ff)) (pr_ixT (n := 1) (ds := [.str "read", .str s, .str t, .int z]) rfl rfl (pr_dt (i := 1) rfl (he.mono g12.ff)) pr_int)) (prd_cons (pr_indexL hn.2 (pr_dt (i := 2) rfl (h0.mono g12.ff)) (pr_ixT (n := 2) (ds := [.str "read", .str s, .str t, .int z]) rfl rfl (pr_dt (i := 1) rfl (he.mono g12.ff)) pr_int)) (prd_cons (pr_ixT (n := 3) (ds := [.str "read", .str s, .str t, .int z]) rfl rfl (pr_dt (i := 1) rfl (he.mono g12.ff)) pr_int) prd_nil))) (by simp only [List.length]; omega)) fun F3 H3 v3 g3 _ s3 => ?_
      have g13 := g12.trans g3
      refine fin rfl g13 (pr_to (pr_lst (ds := [.list (m.marks.map .str), .list (m.rows.map Row.d ++ [Row.d ⟨m.num, ixOf m.marks s, ixOf m.marks t, z⟩]), .int ((m.num : Int) + 1), .int m.k]) (prd_cons (pr_dt (i := 2) rfl (h0.mono g13.ff)) (prd_cons (pr_catL (es := [Row.d ⟨m.num, ixOf m.marks s, ixOf m.marks t, z⟩]) (by rw [List.length_map]; simp only [List.length]; omega) (pr_dt (i := 3) rfl (h1.mono g13.ff)) (pr_lst (prd_cons (pr_tup (prd_cons (pr_dt (i := 4) rfl (.int _)) (prd_cons (pr_dt (i := 6) rfl s3) prd_nil)) (by simp only [List.length]; omega)) prd_nil) (by simp only [List.length]; omega)))
        (prd_cons (pr_add (pr_dt (i := 4) rfl (.int _)) pr_int) (prd_cons (pr_dt (i := 5) rfl (.int _)) prd_nil)))) (by simp only [List.length]; omega)) ?_)
      show _ = PyData.list [.list (m.marks.map .str), .list ((m.rows ++ [Row.mk m.num (ixOf m.marks s) (ixOf m.marks t) z]).map Row.d), .int ((m.num + 1 : Nat) : Int), .int m.k]
      rw [List.map_append]; rfl
    | drop n =>
      refine q_when (W := w0) (F := F) (b := false) sf True.intro (prt_to (prt_test (pr_eqS (i0 rfl (Same.refl _)) pr_str)) (decide_eq_false n_dm)) (fun z => nomatch z) (fun _ F1 H1 g1 _ => ?_)
      refine q_when (W := w0) (F := F1) (b := false) g1.fh True.intro (prt_to (prt_test (pr_eqS (i0 rfl g1.ff) pr_str)) (decide_eq_false n_dr)) (fun z => nomatch z) (fun _ F2 H2 g2 _ => ?_)
      have g12 := g1.trans g2
      refine q_when (W := w0) (F := F2) (b := true) g2.fh True.intro (prt_to (prt_test (pr_eqS (i0 rfl g12.ff) pr_str)) (decide_eq_true rfl)) (fun _ F3 H3 g3 _ => ?_) (fun z => nomatch z)
      have g13 := g12.trans g3
      have hcl := pr_lcL (W := w0) (K := K) (σ := [some (.ref a), some v2, some x0, some x1, some (.int m.num), some (.int m.k), none, none]) (F := F3) (H := H3) (j := 7) (vs := [7]) (tt := tTest (tOp rNe (tOp (rIxT K) (tVar 7) (tC (.int 0))) (tOp (rIxT K) (tVar 1) (tC (.int 1))))) (te' := tVar 7)
        (fun d => match item 0 d with | .int k => !decide (k = n) | _ => false) (fun d => d) (pr_dt (i := 3) rfl (h1.mono g13.ff)) (by rw [List.length_map]; omega) (fun _ => rfl)
        (fun d hd F1 H1 w g _ hw => by
          obtain ⟨r, _, rfl⟩ := List.mem_map.mp hd
          exact prt_to (prt_test (pr_neI (i := (r.n : Int)) (j := n) (pr_ixT (n := 0) rfl rfl (pr_dt rfl hw) pr_int) (pr_ixT (n := 1) (ds := [.str "drop", .int n]) rfl rfl (pr_dt (i := 1) rfl (he.mono (g13.ff.trans g.ff))) pr_int))) rfl)
        (fun d hd F1 H1 w g _ hw _ => pr_dt rfl hw)
      refine fin rfl g13 (pr_to (pr_lst (prd_cons (pr_dt (i := 2) rfl (h0.mono g13.ff)) (prd_cons hcl (prd_cons (pr_dt (i := 4) rfl (.int _)) (prd_cons (pr_dt (i := 5) rfl (.int _)) prd_nil)))) (by simp only [List.length]; omega)) ?_)
      have e5 : (m.rows.filter fun r => !decide ((r.n : Int) = n)).map Row.d = ((m.rows.map Row.d).filter fun d => match item 0 d with | .int k => !decide (k = n) | _ => false).map fun d => d := by
        rw [List.map_id', List.filter_map]
        rfl
      show _ = PyData.list [.list (m.marks.map .str), .list ((m.rows.filter fun r => !decide ((r.n : Int) = n)).map Row.d), .int m.num, .int m.k]
      rw [e5]
    | bound k =>
      refine q_when (W := w0) (F := F) (b := false) sf True.intro (prt_to (prt_test (pr_eqS (i0 rfl (Same.refl _)) pr_str)) (decide_eq_false n_bm)) (fun z => nomatch z) (fun _ F1 H1 g1 _ => ?_)
      refine q_when (W := w0) (F := F1) (b := false) g1.fh True.intro (prt_to (prt_test (pr_eqS (i0 rfl g1.ff) pr_str)) (decide_eq_false n_br)) (fun z => nomatch z) (fun _ F2 H2 g2 _ => ?_)
      have g12 := g1.trans g2
      refine q_when (W := w0) (F := F2) (b := false) g2.fh True.intro (prt_to (prt_test (pr_eqS (i0 rfl g12.ff) pr_str)) (decide_eq_false n_bd)) (fun z => nomatch z) (fun _ F3 H3 g3 _ => ?_)
      have g13 := g12.trans g3
      exact fin rfl g13 (pr_lst (prd_cons (pr_dt (i := 2) rfl (h0.mono g13.ff)) (prd_cons (pr_dt (i := 3) rfl (h1.mono g13.ff)) (prd_cons (pr_dt (i := 4) rfl (.int _)) (prd_cons (pr_ixT (n := 1) (ds := [.str "bound", .int k]) rfl rfl (pr_dt (i := 1) rfl (he.mono g13.ff)) pr_int) prd_nil)))) (by simp only [List.length]; omega))

/-! ### _law_net_of -/
-- slots: 0 _law_model_here, 1 _law_row
abbrev s_l_net_of : Stmt := top 44
theorem sc_l_net_of : FnScope ["_law_model_here", "_law_row"] ["_law_model_here"] (defScope s_l_net_of) := ⟨rfl, rfl, rfl, by decide +kernel, rfl, by decide +kernel, by decide +kernel⟩
def sp_of (f : Md → PyData) : Sp := fun vs H Q _ => ∃ (F : Hp) (v : V) (m : Md), vs = [v] ∧ Same F H ∧ Dt F v m.d ∧ Wf m ∧ ∀ F' H' v, Gw [] F H F' H' → Dt F' v (f m) → Q v H'
theorem sg_of {W : Wd} {f : Md → PyData} {m : Md} (hm : Wf m) : Sg W (sp_of f) [.dt m.d] (.dt (f m)) := fun F H vs sf iw ha Q E q => by
  obtain ⟨v, r, rfl, hv, rfl⟩ := ha
  exact ⟨F, v, m, rfl, sf, hv, hm, fun F' H' v g hv => q F' H' v g.pure (W.st _ _ _ _ g iw) hv⟩
theorem ok_net_of (F : Df K mg "_law_net_of" s_l_net_of) (T : Txt K w mg C dl) : Cl P w K mg base CX0 1 "_law_net_of" (sp_of netD) := by
  refine cl_of F sc_l_net_of (fun vs H Q E h => ?_) (fun _ _ _ _ _ _ us hl => match us, hl with | [_], _ => rfl) fun f cdv A outer s H vs Q E hr h => ?_
  · obtain ⟨_, _, _, rfl, _⟩ := h
    rfl
  · obtain ⟨F, v, m, rfl, sf, hm, wf, q⟩ := h
    refine ⟨_, (pss_one (ps_ret (pe_tup (pa_cons pe_str (pa_cons (pe_callTy call_tuple_of (by rfl) T.tuple_ boot_tuple (pa_cons (pe_ix (ix_listK K) (pv 0) pe_int (fun _ _ => rfl)) pa_nil)) (pa_cons (pe_callTy call_tuple_of (by rfl) T.tuple_ boot_tuple (pa_cons (pe_lc (own := [("_law_row", 1)]) (g := gName 1) rfl sc_l_net_of.nd (pi_list (pe_ix (ix_listK K) (pv 0) pe_int (fun _ _ => rfl))) (blkOk_by (N := ["_law_model_here", "_law_row"]) (sc := defScope s_l_net_of) (by decide +kernel)) (fun _ _ _ _ _ => pg_name (i := 1) sc_l_net_of.nd rfl (Or.inl rfl)) (fun _ _ _ _ _ => pts_nil) (fun _ _ _ _ _ => (pe_ix (ix_tupK K) (pv 1) pe_int (fun _ _ => rfl)))) pa_nil)) pa_nil)))))), ?_⟩
    have e0 : (start ["_law_model_here", "_law_row"] [v]) = [some v, none] := rfl
    rw [e0]
    have hc := pr_lcL (W := w0) (K := K) (σ := [some v, none]) (F := F) (H := H) (j := 1) (vs := [1]) (tt := tYes) (te' := tOp (rIxT K) (tVar 1) (tC (.int 1))) (fun _ => true) (item 1) (pr_m1 (K := K) (i := 0) rfl hm) (by rw [List.length_map]; exact Nat.le_trans wf.few2 (by decide)) (fun _ => rfl)
      (fun d hd F1 H1 v g _ hv => prt_yes) (fun d hd F1 H1 v g _ hv _ => by
        obtain ⟨r, _, rfl⟩ := List.mem_map.mp hd
        exact pr_ixT (n := 1) rfl rfl (pr_dt rfl hv) pr_int)
    have e1 : ((m.rows.map Row.d).filter fun _ => true).map (item 1) = m.rows.map Row.rd := by
      rw [List.filter_eq_self.mpr (fun _ _ => rfl), List.map_map]; rfl
    rw [e1] at hc
    exact s_ret (W := w0) (F := F) (a := .dt (netD m)) sf True.intro (pr_tup (prd_cons pr_str (prd_cons (pr_tupleL (pr_m0 rfl hm)) (prd_cons (pr_tupleL hc) prd_nil))) (by simp only [List.length]; omega)) fun F1 H1 x g _ hx => q F1 H1 x g hx

/-! ### _law_parts -/
-- slots: 0 _law_model_here (cell), 1 _law_group (cell), 2 _law_number, 3 _law_reading, 4 _law_old (cell), 5 _law_new (cell), 6 _law_k, 7 _law_found, 8 _law_mark (cell), 9 _law_part
abbrev s_l_parts : Stmt := top 45
theorem sc_l_parts : FnScope ["_law_model_here", "_law_group", "_law_number", "_law_reading", "_law_old", "_law_new", "_law_k", "_law_found", "_law_mark", "_law_part"] ["_law_model_here"] (defScope s_l_parts) := ⟨rfl, rfl, rfl, by decide +kernel, rfl, by decide +kernel, by decide +kernel⟩
theorem room65 {k : Nat} {A : Around} (r : Room k A) : A.units + 65 < cLine := by have := r.un; omega
theorem rg_nat (n : Nat) : rgV 0 (n : Int) = (List.range n).map fun k : Nat => V.int (k : Int) := by
  unfold rgV
  have e : ((n : Int) - 0).toNat = n := by omega
  rw [e]
  refine List.map_congr_left fun k _ => ?_
  show V.int (0 + (k : Int)) = V.int (k : Int)
  rw [Int.zero_add]
theorem dta_nats {F : Hp} (l : List Nat) : DtA F (l.map fun k : Nat => V.int (k : Int)) (natsD l) := by
  have := DtA.of_ints (F := F) (ns := l.map fun k : Nat => (k : Int))
  rw [List.map_map] at this
  exact this
theorem pr_listRg {W : Wd} {σ : L2.St} {F H : Hp} {te : TE} {n : Nat} (hn : n ≤ 10000) (h : Pr W te σ F H (.dt (.int (n : Int)))) : Pr W (tLstRg (tRg1 te)) σ F H (.dt (.list (natsD (List.range n)))) := fun F1 H1 g i Q q =>
  h F1 H1 g i _ fun F2 H2 v g2 i2 s2 => by
    cases s2
    refine ⟨_, rfl, ⟨by omega, by omega, by omega, by omega, by omega⟩, fun l hl => ?_⟩
    rw [rg_nat]
    have g3 : Gw [] F2 H2 (upd F2 l (.lst ((List.range n).map fun k : Nat => V.int (k : Int)))) (upd H2 l (.lst ((List.range n).map fun k : Nat => V.int (k : Int)))) := (Gw.refl g2.fh).frz hl
    exact q _ _ _ (g2.trans g3.pure) (W.st _ _ _ _ g3 i2) (.lst upd_same (dta_nats _))
theorem nats_get {l : List Nat} {i : Nat} (h : i < l.length) : (natsD l)[i]? = some (.int ((l.getD i 0 : Nat) : Int)) := by
  unfold natsD
  rw [List.getElem?_map, List.getElem?_map, List.getElem?_eq_getElem h, getD_of h]; rfl
theorem nats_len (l : List Nat) : (natsD l).length = l.length := by unfold natsD; rw [List.length_map, List.length_map]
theorem eqv_strsD (a b : List Str) : PyData.eqv (strsD a) (strsD b) = decide (a = b) := by
  have key : ∀ a b : List Str, PyData.eqvAll (a.map .str) (b.map .str) = decide (a = b) := by
    intro a
    induction a with
    | nil =>
      intro b
      cases b with
      | nil => simp [PyData.eqvAll]
      | cons y r => simp [PyData.eqvAll]
    | cons x l ih =>
      intro b
      cases b with
      | nil => simp [PyData.eqvAll]
      | cons y r =>
        rw [List.map_cons, List.map_cons]
        simp only [PyData.eqvAll, PyData.eqv]
        rw [ih r]
        by_cases h1 : x = y
        · by_cases h2 : l = r
          · simp [h1, h2]
          · simp [h1, h2]
        · simp [h1]
  unfold strsD
  simp only [PyData.eqv]
  exact key a b
theorem any_strs (l : List (List Str)) (d : List Str) : ((l.map strsD).any fun z => PyData.eqv z (strsD d)) = decide (d ∈ l) := by
  induction l with
  | nil => simp
  | cons x r ih =>
    rw [List.map_cons, List.any_cons, ih, eqv_strsD]
    by_cases h : x = d
    · simp [h]
    · have h' : ¬ d = x := fun z => h z.symm
      simp [h, h']
theorem sh_strs {m : Md} (wf : Wf m) (l : List Nat) (hl : ∀ k ∈ l, k < m.marks.length) : Sh 2 (strsD (namesOf m.marks l)) := by
  refine sh_names fun s hs => ?_
  obtain ⟨k, hk, rfl⟩ := List.mem_map.mp hs
  rw [nm_get (hl k hk)]
  exact wf.short _ (List.getElem_mem _)
theorem partsTo_sh {m : Md} (wf : Wf m) (g : List Nat) : ∀ i, ∀ l ∈ partsTo m.marks g m.marks.length i, Sh 2 (strsD l) := by
  intro i
  induction i with
  | zero => intro l hl; cases hl
  | succ i ih =>
    intro l hl
    have e : partsTo m.marks g m.marks.length (i + 1) = if namesOf m.marks (cls g m.marks.length i) ∈ partsTo m.marks g m.marks.length i then partsTo m.marks g m.marks.length i else partsTo m.marks g m.marks.length i ++ [namesOf m.marks (cls g m.marks.length i)] := rfl
    rw [e] at hl
    split at hl
    · exact ih l hl
    · rcases List.mem_append.mp hl with hl | hl
      · exact ih l hl
      · have : l = namesOf m.marks (cls g m.marks.length i) := by simpa using hl
        rw [this]
        exact sh_strs wf _ fun k hk => (mem_cls.mp hk).1
theorem relab_data (g : List Nat) (p : Nat × Nat) : (((natsD g).filter fun _ => true).map fun d => match d with | .int k => PyData.int (if k = ((g.getD p.2 0 : Nat) : Int) then ((g.getD p.1 0 : Nat) : Int) else k) | _ => .none) = natsD (relab g p) := by
  rw [List.filter_eq_self.mpr (fun _ _ => rfl)]
  unfold natsD relab
  rw [List.map_map, List.map_map, List.map_map, List.map_map]
  refine List.map_congr_left fun k _ => ?_
  show PyData.int (if ((k : Nat) : Int) = ((g.getD p.2 0 : Nat) : Int) then ((g.getD p.1 0 : Nat) : Int) else (k : Int)) = PyData.int (((if k = g.getD p.2 0 then g.getD p.1 0 else k : Nat)) : Int)
  by_cases h : k = g.getD p.2 0
  · rw [if_pos h, if_pos (by omega)]
  · rw [if_neg h, if_neg (by omega)]
theorem ok_l_parts (F : Df K mg "_law_parts" s_l_parts) (T : Txt K w mg C dl) : Cl P w K mg base CX0 1 "_law_parts" (sp_of partsD) := by
  refine cl_of F sc_l_parts (fun vs H Q E h => ?_) (fun _ _ _ _ _ _ us hl => match us, hl with | [_], _ => rfl) fun f cdv A outer s H vs Q E hr h => ?_
  · obtain ⟨_, _, _, rfl, _⟩ := h
    rfl
  · obtain ⟨F, v, m, rfl, sf, hm, wf, q⟩ := h
    refine ⟨_, (pss_cons (ps_set (i := 1) sc_l_parts.nd rfl (Or.inr rfl) (pe_listRg rfl (by rfl) T.list_ (prg_1 (by rfl) T.range (pe_callB call_len_seq (by rfl) T.len_ PySem.boot_len (pa_cons (pe_ix (ix_listK K) (pv 0) pe_int (fun _ _ => rfl)) pa_nil))))) (pss_cons (ps_for PassesOwn.never rfl (pi_list (pe_ix (ix_listK K) (pv 0) pe_int (fun _ _ => rfl))) (pg_tup rfl (pgs_cons (pg_name (i := 2) sc_l_parts.nd rfl (Or.inl rfl)) (pgs_cons (pg_name (i := 3) sc_l_parts.nd rfl (Or.inl rfl)) pgs_nil))) (pss_cons (ps_set (i := 4) sc_l_parts.nd rfl (Or.inr rfl) (pe_ix (ix_listK K) (pv 1) (pe_ix (ix_tupK K) (pv 3) pe_int (fun _ _ => rfl)) (fun _ _ => rfl))) (pss_cons (ps_set (i := 5) sc_l_parts.nd rfl (Or.inr rfl) (pe_ix (ix_listK K) (pv 1) (pe_ix (ix_tupK K) (pv 3) pe_int (fun _ _ => rfl)) (fun _ _ => rfl))) (pss_one (ps_set (i := 1) sc_l_parts.nd rfl (Or.inr rfl) (pe_lc (own := [("_law_k", 6)]) (g := gName 6) rfl sc_l_parts.nd (pi_list (pv 1)) (blkOk_by (N := ["_law_model_here", "_law_group", "_law_number", "_law_reading", "_law_old", "_law_new", "_law_k", "_law_found", "_law_mark", "_law_part"]) (sc := defScope s_l_parts) (by decide +kernel)) (fun _ _ _ _ _ => pg_name (i := 6) sc_l_parts.nd rfl (Or.inl rfl)) (fun _ _ _ _ _ => pts_nil) (fun _ _ _ _ _ => (pe_ix (ix_listK K) (pe_lst (pa_cons (pv 6) (pa_cons (pv 5) pa_nil))) (pe_callTy call_int1 (by rfl) T.int_ boot_int (pa_cons (pe_cmpR op_eq (pv 6) (pv 4) (nomark _)) pa_nil)) (fun _ _ => rfl))))))))) (pss_cons (ps_set (i := 7) sc_l_parts.nd rfl (Or.inl rfl) (pe_lst pa_nil)) (pss_cons (ps_for PassesOwn.never rfl (pi_range1 (by rfl) T.range (pa_cons (pe_callB call_len_seq (by rfl) T.len_ PySem.boot_len (pa_cons (pv 1) pa_nil)) pa_nil)) (pg_name (i := 8) sc_l_parts.nd rfl (Or.inr rfl)) (pss_cons (ps_set (i := 9) sc_l_parts.nd rfl (Or.inl rfl) (pe_callTy call_tuple_of (by rfl) T.tuple_ boot_tuple (pa_cons (pe_lc (own := [("_law_k", 6)]) (g := gName 6) rfl sc_l_parts.nd (pi_range1 (by rfl) T.range (pa_cons (pe_callB call_len_seq (by rfl) T.len_ PySem.boot_len (pa_cons (pv 1) pa_nil)) pa_nil)) (blkOk_by (N := ["_law_model_here", "_law_group", "_law_number", "_law_reading", "_law_old", "_law_new", "_law_k", "_law_found", "_law_mark", "_law_part"]) (sc := defScope s_l_parts) (by decide +kernel)) (fun _ _ _ _ _ => pg_name (i := 6) sc_l_parts.nd rfl (Or.inl rfl)) (fun _ _ _ _ _ => pts_one (pt_cmpR op_eq (pe_ix (ix_listK K) (pv 1) (pv 6) (fun _ _ => rfl)) (pe_ix (ix_listK K) (pv 1) (pv 8) (fun _ _ => rfl)) (nomark _))) (fun _ _ _ _ _ => (pe_ix (ix_listK K) (pe_ix (ix_listK K) (pv 0) pe_int (fun _ _ => rfl)) (pv 6) (fun _ _ => rfl)))) pa_nil))) (pss_one (ps_if (pt_cmpR (op_notInD (room65 hr)) (pv 9) (pv 7) (by rfl)) (pss_one (ps_expr (pe_bm PySem.F.plainAttrs_list PySem.F.slot_list_append PySem.F.type_list_append mt_append (pv 7) (pa_cons (pv 9) pa_nil)))) pss_nil)))) (pss_one (ps_ret (pe_callTy call_tuple_of (by rfl) T.tuple_ boot_tuple (pa_cons (pv 7) pa_nil)))))))), ?_⟩
    have e0 : (start ["_law_model_here", "_law_group", "_law_number", "_law_reading", "_law_old", "_law_new", "_law_k", "_law_found", "_law_mark", "_law_part"] [v]) = [some v, none, none, none, none, none, none, none, none, none] := rfl
    rw [e0]
    have few := wf.few
    have hgl : ∀ es, (groups m.marks.length es).length = m.marks.length := fun es => groups_len _ _
    -- group = list(range(len(model[0])))
    refine q_set (W := w0) (F := F) sf True.intro (pr_listRg (by omega) (pr_len0 (i := 0) rfl hm)) fun F1 H1 v1 g1 _ s1 => ?_
    refine q_forL (W := w0) (F := F1) (items := m.rows.map Row.d) g1.fh True.intro (pr_m1 (i := 0) rfl (hm.mono g1.ff)) fun F2 H2 g2 _ => ⟨fun i σ' H' => ∃ (F' : Hp) (vg : V) (o2 o3 o4 o5 : Option V), σ' = [some v, some vg, o2, o3, o4, o5, none, none, none, none] ∧ Gw [] F H F' H' ∧ Same F2 F' ∧ Dt F' vg (.list (natsD (groups m.marks.length ((esOf m.rows).take i)))),
      ⟨F2, v1, none, none, none, none, rfl, g1.trans g2, Same.refl _, by rw [List.take_zero]; exact Dt.mono g2.ff s1⟩, ?_, ?_, ?_⟩
    · rintro i σ' H' ⟨F', _, _, _, _, _, _, g, f2, _⟩
      exact f2.trans g.fh
    · rintro i d x σ' H' hd hx ⟨F', vg, o2, o3, o4, o5, rfl, g, f2, hvg⟩
      rw [List.getElem?_map] at hd
      obtain ⟨r, hr, rfl⟩ := Option.map_eq_some_iff.mp hd
      obtain ⟨hra, hrb⟩ := wf.ends r (List.mem_of_getElem? hr)
      have htk : (esOf m.rows).take (i + 1) = (esOf m.rows).take i ++ [(r.a, r.b)] := by
        rw [List.take_succ]
        unfold esOf
        rw [List.getElem?_map, hr]; rfl
      obtain ⟨a, y, rfl, ha, hy⟩ := row_pair hx
      generalize hG : groups m.marks.length ((esOf m.rows).take i) = G at hvg
      have hGl : G.length = m.marks.length := by rw [← hG]; exact hgl _
      refine ⟨a, _, rfl, sqt_rd (rd_mono (f2.trans g.fh) ha), rfl, _, _, rfl, _, _, rfl, rfl, ?_⟩
      show tSeq _ _ _ [some v, some vg, some (.int (r.n : Int)), some y, o4, o5, none, none, none, none] H'
      have hy' : Dt F' y r.rd := hy.mono f2
      refine q_set (W := w0) (F := F') (a := .dt (.int ((G.getD r.b 0 : Nat) : Int))) g.fh True.intro (pr_ixL (n := r.b) rfl (nats_get (by omega)) (pr_dt (i := 1) rfl hvg) (pr_ixT (n := 1) (ds := [.int r.a, .int r.b, .int r.v]) rfl rfl (pr_dt (i := 3) rfl hy') pr_int)) fun F3 H3 v3 g3 _ s3 => ?_
      cases s3
      refine q_set (W := w0) (F := F3) (a := .dt (.int ((G.getD r.a 0 : Nat) : Int))) g3.fh True.intro (pr_ixL (n := r.a) rfl (nats_get (by omega)) (pr_dt (i := 1) rfl (hvg.mono g3.ff)) (pr_ixT (n := 0) (ds := [.int r.a, .int r.b, .int r.v]) rfl rfl (pr_dt (i := 3) rfl (hy'.mono g3.ff)) pr_int)) fun F4 H4 v4 g4 _ s4 => ?_
      cases s4
      have g34 := g3.trans g4
      have hcm := pr_lcL (W := w0) (K := K) (σ := [some v, some vg, some (.int (r.n : Int)), some y, some (.int ((G.getD r.b 0 : Nat) : Int)), some (.int ((G.getD r.a 0 : Nat) : Int)), none, none, none, none]) (F := F4) (H := H4) (j := 6) (vs := [6]) (tt := tYes)
        (te' := tOp (rIxL K) (tLst (tCons (tVar 6) (tCons (tVar 5) tNil))) (tCB (fun xs H Q => (∃ i, xs = [.int i] ∧ Q (.int i) H) ∨ ∃ k, xs = [.bl k] ∧ Q (.int (if k then 1 else 0)) H) (tCons (tOp rEq (tVar 6) (tVar 4)) tNil)))
        (fun _ => true) (fun d => match d with | .int k => PyData.int (if k = ((G.getD r.b 0 : Nat) : Int) then ((G.getD r.a 0 : Nat) : Int) else k) | _ => .none) (pr_dt (i := 1) rfl (hvg.mono g34.ff)) (by rw [nats_len]; omega) (fun _ => rfl)
        (fun d hd F1 H1 w g _ hw => prt_yes)
        (fun d hd F1 H1 w g _ hw _ => by
          unfold natsD at hd
          obtain ⟨k, hk, rfl⟩ := List.mem_map.mp hd
          cases hw
          by_cases h : k = ((G.getD r.b 0 : Nat) : Int)
          · refine pr_to (pr_ixL (n := 1) (ds := [.int k, .int ((G.getD r.a 0 : Nat) : Int)]) (d := .int ((G.getD r.a 0 : Nat) : Int)) (i := 1) rfl rfl (pr_lst (prd_cons (pr_dt (i := 6) rfl (.int k)) (prd_cons (pr_dt (i := 5) rfl (.int _)) prd_nil)) (by simp only [List.length]; omega)) (pr_to (pr_toIntB (pr_eqI (pr_dt (i := 6) rfl (.int k)) (pr_dt (i := 4) rfl (.int _)))) (by rw [if_pos (decide_eq_true h)]))) ?_
            show _ = PyData.int (if k = ((G.getD r.b 0 : Nat) : Int) then ((G.getD r.a 0 : Nat) : Int) else k)
            rw [if_pos h]
          · refine pr_to (pr_ixL (n := 0) (ds := [.int k, .int ((G.getD r.a 0 : Nat) : Int)]) (d := .int k) (i := 0) rfl rfl (pr_lst (prd_cons (pr_dt (i := 6) rfl (.int k)) (prd_cons (pr_dt (i := 5) rfl (.int _)) prd_nil)) (by simp only [List.length]; omega)) (pr_to (pr_toIntB (pr_eqI (pr_dt (i := 6) rfl (.int k)) (pr_dt (i := 4) rfl (.int _)))) (by rw [if_neg (by simpa using h)]))) ?_
            show _ = PyData.int (if k = ((G.getD r.b 0 : Nat) : Int) then ((G.getD r.a 0 : Nat) : Int) else k)
            rw [if_neg h])
      rw [relab_data G (r.a, r.b)] at hcm
      refine s_set (W := w0) (F := F4) g4.fh True.intro hcm fun F5 H5 v5 g5 _ s5 => ?_
      refine ⟨F5, v5, _, _, _, _, rfl, (g.trans g34).trans g5, (f2.trans g34.ff).trans g5.ff, ?_⟩
      rw [htk, groups_snoc, hG]
      exact s5
    · rintro σ' H' ⟨F', vg, o2, o3, o4, o5, rfl, g, f2, hvg⟩
      have etk : (esOf m.rows).take (m.rows.map Row.d).length = esOf m.rows := List.take_of_length_le (by unfold esOf; rw [List.length_map, List.length_map]; exact Nat.le_refl _)
      rw [etk] at hvg
      have hvg' : Dt F' vg (.list (natsD (grp m))) := hvg
      have hGl : (grp m).length = m.marks.length := hgl _
      have fm : Same F F' := g.ff
      -- found = []
      refine q_asg ⟨Nat.zero_le _, fun l hl => ?_⟩
      have g0 : Gw [] F' H' F' (upd H' l (.lst [])) := (Gw.refl g.fh).fresh hl
      have hl0 : H l = none := g.back hl
      have fl0 := same_fnone g.fh hl
      refine q_forR (W := rawW [(l, .lst [])]) (F := F') (n := m.marks.length) g0.fh (raw1 upd_same fl0) (pr_to (pr_lenL (pr_dt (i := 1) rfl hvg')) (by rw [nats_len, hGl])) (by omega)
        (fun i σ' H2 => ∃ (F2 : Hp) (xs : List V) (o8 o9 : Option V), σ' = [some v, some vg, o2, o3, o4, o5, none, some (.ref l), o8, o9] ∧ Gw [] F H F2 H2 ∧ Same F' F2 ∧ F2 l = none ∧ H2 l = some (.lst xs) ∧ DtA F2 xs ((partsTo m.marks (grp m) m.marks.length i).map strsD))
        (fun F2 H2 g2 i2 => ⟨F2, [], none, none, rfl, (g.trans g0).trans g2, g2.ff, (i2 _ List.mem_cons_self).2, (i2 _ List.mem_cons_self).1, .nil⟩) (fun i σ2 H2 hi h => ?_) (fun σ2 H2 h => ?_)
      · obtain ⟨F2, xs, o8, o9, rfl, gg, f3, fl, hll, hx⟩ := h
        have hvg2 := hvg'.mono f3
        have hm2 := hm.mono (fm.trans f3)
        have hcm := pr_lcR (W := rawW [(l, .lst xs)]) (σ := [some v, some vg, o2, o3, o4, o5, none, some (.ref l), some (.int (i : Int)), o9]) (F := F2) (H := H2) (j := 6) (vs := [6]) (n := m.marks.length) (tt := tTest (tOp rEq (tOp (rIxL K) (tVar 1) (tVar 6)) (tOp (rIxL K) (tVar 1) (tVar 8)))) (te' := tOp (rIxL K) (tOp (rIxL K) (tVar 0) (tC (.int 0))) (tVar 6))
          (fun k => decide ((grp m).getD k 0 = (grp m).getD i 0)) (fun k => .str (nm m.marks k)) (pr_to (pr_lenL (K := K) (pr_dt (i := 1) rfl hvg2)) (by rw [nats_len, hGl])) (by omega) (fun _ => rfl)
          (fun k hk F3 H3 g3 _ => prt_to (prt_test (pr_eqI (pr_ixL (n := k) rfl (nats_get (by omega)) (pr_dt (i := 1) rfl (hvg2.mono g3.ff)) (pr_dt (i := 6) rfl (.int _))) (pr_ixL (n := i) rfl (nats_get (by omega)) (pr_dt (i := 1) rfl (hvg2.mono g3.ff)) (pr_dt (i := 8) rfl (.int _))))) (decide_eq_decide.mpr (by omega)))
          (fun k hk F3 H3 g3 _ _ => pr_ixL (n := k) (d := .str (nm m.marks k)) rfl (by rw [List.getElem?_map, List.getElem?_eq_getElem hk, nm_get hk]; rfl) (pr_m0 (i := 0) rfl (hm2.mono g3.ff)) (pr_dt (i := 6) rfl (.int _)))
        have ecm : (((List.range m.marks.length).filter fun k => decide ((grp m).getD k 0 = (grp m).getD i 0)).map fun k => PyData.str (nm m.marks k)) = (namesOf m.marks (cls (grp m) m.marks.length i)).map .str := by
          unfold namesOf cls
          rw [List.map_map]; rfl
        rw [ecm] at hcm
        refine q_set (W := rawW [(l, .lst xs)]) (F := F2) (a := .dt (strsD (namesOf m.marks (cls (grp m) m.marks.length i)))) gg.fh (raw1 hll fl) (pr_tupleL hcm) fun F3 H3 v3 g3 i3 s3 => ?_
        have hsh : Sh 2 (strsD (namesOf m.marks (cls (grp m) m.marks.length i))) := sh_strs wf _ fun k hk => (mem_cls.mp hk).1
        have hshl : Sh 3 (.list ((partsTo m.marks (grp m) m.marks.length i).map strsD)) := sh_lst fun d hd => by
          obtain ⟨l, hl, rfl⟩ := List.mem_map.mp hd
          exact partsTo_sh wf _ _ l hl
        have e3 : partsTo m.marks (grp m) m.marks.length (i + 1) = if namesOf m.marks (cls (grp m) m.marks.length i) ∈ partsTo m.marks (grp m) m.marks.length i then partsTo m.marks (grp m) m.marks.length i else partsTo m.marks (grp m) m.marks.length i ++ [namesOf m.marks (cls (grp m) m.marks.length i)] := rfl
        have hpl := partsTo_len m.marks (grp m) m.marks.length i
        refine s_when (W := rawW [(l, .lst xs)]) (F := F3) (b := !decide (namesOf m.marks (cls (grp m) m.marks.length i) ∈ partsTo m.marks (grp m) m.marks.length i)) g3.fh i3 (prt_to (prt_test (pr_notInO (fun F H i => (i _ List.mem_cons_self).1) (i := 7) rfl (hx.mono g3.ff) (hsh.ok (by decide)) (hshl.ok (by decide)) (pr_dt (i := 9) rfl s3))) (by rw [any_strs])) (fun hb F4 H4 g4 i4 => ?_) (fun hb F4 H4 g4 i4 => ?_)
        · have hni : ¬ namesOf m.marks (cls (grp m) m.marks.length i) ∈ partsTo m.marks (grp m) m.marks.length i := by
            rw [Bool.not_eq_true'] at hb
            exact of_decide_eq_false hb
          have st4 := i4 _ List.mem_cons_self
          refine s_append (W := rawW [(l, .lst xs)]) (F := F4) (l := l) (i := 7) (a := .dt (strsD (namesOf m.marks (cls (grp m) m.marks.length i)))) g4.fh i4 rfl st4.1 (fun z => nomatch z) (by rw [hx.len, List.length_map]; omega) (pr_dt (i := 9) rfl (Dt.mono g4.ff s3)) fun F5 H5 v5 g5 i5 s5 => ?_
          have st5 := i5 _ List.mem_cons_self
          have g35 := (g3.trans g4).trans g5
          refine ⟨F5, _, _, _, rfl, (gg.trans g35).write st5.2 (.inl hl0), f3.trans g35.ff, st5.2, upd_same, ?_⟩
          rw [e3, if_neg hni, List.map_append]
          exact (hx.mono g35.ff).snoc s5
        · have hni : namesOf m.marks (cls (grp m) m.marks.length i) ∈ partsTo m.marks (grp m) m.marks.length i := by
            rw [Bool.not_eq_false'] at hb
            exact of_decide_eq_true hb
          have st4 := i4 _ List.mem_cons_self
          have g34 := g3.trans g4
          refine ⟨F4, xs, _, _, rfl, gg.trans g34, f3.trans g34.ff, st4.2, st4.1, ?_⟩
          rw [e3, if_pos hni]
          exact hx.mono g34.ff
      · obtain ⟨F2, xs, o8, o9, rfl, gg, f3, fl, hll, hx⟩ := h
        refine ⟨_, rfl, l, xs, rfl, .inl ⟨SqL.of hll, fun l2 hln => ?_⟩⟩
        have g2 : Gw [] F2 H2 (upd F2 l2 (.tup xs)) (upd H2 l2 (.tup xs)) := (Gw.refl gg.fh).frz hln
        exact q _ _ _ (gg.trans g2) (.tup (.inl upd_same) (hx.mono g2.ff))
end
end K39
end

section
set_option Elab.async false
set_option linter.all false
set_option maxRecDepth 100000
set_option maxHeartbeats 4000000
namespace K39
open PySem PySem.Spec PyProof.Rows L2

/-! ### the law's deeds and models -/
def Gd (es : List Deed) : Prop := ∀ j e, es[j]? = some e → Good (run md0 (es.take j)) j e
def mdls (es : List Deed) : List Md := (List.range (es.length + 1)).map fun j => run md0 (es.take j)
theorem run_snoc (m : Md) (es : List Deed) (e : Deed) : run m (es ++ [e]) = step (run m es) e := by
  unfold run
  rw [List.foldl_append]; rfl
theorem mdls_snoc (es : List Deed) (e : Deed) : mdls (es ++ [e]) = mdls es ++ [step (run md0 es) e] := by
  unfold mdls
  rw [List.length_append, List.length_singleton, List.range_succ, List.map_append]
  congr 1
  · refine List.map_congr_left fun j hj => ?_
    have := List.mem_range.mp hj
    rw [List.take_append_of_le_length (by omega)]
  · have e1 : (es ++ [e]).take (es.length + 1) = es ++ [e] := List.take_of_length_le (by rw [List.length_append, List.length_singleton]; exact Nat.le_refl _)
    show [run md0 ((es ++ [e]).take (es.length + 1))] = _
    rw [e1, run_snoc]
theorem mdls_last (es : List Deed) : ∃ l, mdls es = l ++ [run md0 es] := by
  unfold mdls
  rw [List.range_succ, List.map_append]
  refine ⟨(List.range es.length).map fun j => run md0 (es.take j), ?_⟩
  show _ ++ [run md0 (es.take es.length)] = _
  rw [List.take_length]
theorem mdls_get (es : List Deed) {j : Nat} (h : j ≤ es.length) : (mdls es)[j]? = some (run md0 (es.take j)) := by
  unfold mdls
  rw [List.getElem?_map, List.getElem?_range (by omega)]; rfl
theorem gd_nil : Gd [] := fun j e h => by simp at h
theorem gd_gen {es : List Deed} (h : Gd es) : ∀ i, i ≤ es.length → Gen (run md0 (es.take i)) i := by
  intro i
  cases i with
  | zero => intro _; rw [List.take_zero]; exact gen0
  | succ i =>
    intro hi
    have hg : es[i]? = some es[i] := List.getElem?_eq_getElem (by omega)
    rw [take_snoc' hg, run_snoc]
    exact (h i _ hg).gen
theorem gd_last {es : List Deed} (h : Gd es) : Gen (run md0 es) es.length := by
  have := gd_gen h es.length (Nat.le_refl _)
  rwa [List.take_length] at this
theorem gd_snoc {es : List Deed} {e : Deed} (h : Gd es) (g : Good (run md0 es) es.length e) : Gd (es ++ [e]) := fun j e' hj => by
  rcases Nat.lt_or_ge j es.length with hl | hl
  · rw [List.getElem?_append_left hl] at hj
    rw [List.take_append_of_le_length (by omega)]
    exact h j e' hj
  · rw [List.getElem?_append_right hl] at hj
    have h0 : j - es.length = 0 := by
      cases hk : j - es.length with
      | zero => rfl
      | succ k => rw [hk] at hj; simp at hj
    rw [h0] at hj
    have e1 : e = e' := by simpa using hj
    have e2 : j = es.length := by omega
    subst e1
    subst e2
    rw [List.take_append_of_le_length (Nat.le_refl _), List.take_length]
    exact g
theorem good_named {m : Md} {i : Nat} {e : Deed} (g : Good m i e) : named m e := by
  cases e with
  | read s t v =>
    have h := g.can 0 (by decide)
    rw [canDo_read] at h
    simp only [canRead, Bool.and_eq_true, Bool.not_eq_true', decide_eq_true_eq, decide_eq_false_iff_not] at h
    obtain ⟨_, ⟨⟨⟨⟨⟨_, _⟩, hs⟩, ht⟩, _⟩, _⟩, _⟩ := h
    exact ⟨hs, ht⟩
  | _ => exact True.intro
section
variable {W : Wd} {σ : L2.St} {F H F1 H1 : Hp} {te ta tb tc to : TE} {tl tr : TA} {tt t u : TT} {a b c : Ar} {as : List Ar} {v w : V} {d e : PyData} {r : R2} {K : PySem.W.Frag} {D : Ends} {tu tw tz : TS}
/-- l[-1], l a list that stands unfrozen -/
theorem pr_ixLastO {l : Addr} {xs : List V} {i : Nat} (hI : ∀ F H, W.I F H → H l = some (.lst (xs ++ [v]))) (h : σ[i]? = some (some (.ref l))) (hd : Dt F v d) : Pr W (tOp (rIxL K) (tVar i) (tUn (rU fun i => .int (-i)) (tC (.int 1)))) σ F H (.dt d) := by
  have r : Pr W (tOp (rIxL K) (tVar i) (tUn (rU fun i => .int (-i)) (tC (.int 1)))) σ F H (.raw v) := pr_op (pr_var h) (pr_neg (pr_int (n := 1))) fun F2 H2 x y sf iw hx hy Q q => by
    have ex : x = .ref l := hx
    subst ex
    cases hy
    exact ⟨l, _, -1, v, rfl, rfl, SqL.of (hI _ _ iw), atI_last _ _, q F2 H2 v (Gw.refl sf) rfl⟩
  exact pr_as r hd
theorem lst_one {Q : VK} (h : te σ H fun x H1 => [x].length ≤ sizeLine ∧ ∀ p, H1 p = none → Q (.ref p) (upd H1 p (.lst [x]))) : tLst (tCons te tNil) σ H Q := h
theorem raw2 {F H : Hp} {a b : Addr} {o o' : HO} (h1 : H a = some o) (h2 : F a = none) (h3 : H b = some o') (h4 : F b = none) : (rawW [(a, o), (b, o')]).I F H := fun q hq => by
  simp only [List.mem_cons, List.not_mem_nil, or_false] at hq
  rcases hq with rfl | rfl
  · exact ⟨h1, h2⟩
  · exact ⟨h3, h4⟩
end
section
variable {P : Program} {w : World} {K : PySem.W.Frag} {mg : Str → Option Value} {base : Heap} {C dl Cb fI : Addr}

/-! ### _law_model -/
-- slots: 0 _law_box, 1 _law_many, 2 _law_models, 3 _law_deeds, 4 _law_turn
abbrev s_l_model : Stmt := top 46
theorem sc_l_model : FnScope ["_law_box", "_law_many", "_law_models", "_law_deeds", "_law_turn"] ["_law_box", "_law_many"] (defScope s_l_model) := ⟨rfl, rfl, rfl, by decide +kernel, rfl, by decide +kernel, by decide +kernel⟩
def bothD (es : List Deed) : PyData := .list [.list (es.map Deed.d), .list ((mdls es).map Md.d)]
def sp_model : Sp := fun vs H Q _ => ∃ (F : Hp) (box : Addr) (many : Nat), vs = [.ref box, .int many] ∧ Same F H ∧ BoxAt box F H ∧ many ≤ 20 ∧ ∀ F' H' v es, Gw [box] F H F' H' → BoxAt box F' H' → es.length = many → Gd es → Dt F' v (bothD es) → Q v H'
theorem sg_model {W : Wd} {box : Addr} (b : BoxIn W box) : Sg W sp_model [.raw (.ref box), .ex fun d => ∃ n : Nat, d = .int (n : Int) ∧ (n : Int) < 21] (.ex fun d => ∃ es, d = bothD es ∧ Gd es ∧ es.length ≤ 20) := fun F H vs sf iw ha Q E q => by
  obtain ⟨v, r, rfl, rfl, x, r', rfl, ⟨d, hd, n, rfl, hn⟩, rfl⟩ := ha
  cases hd
  exact ⟨F, box, n, rfl, sf, b.hI F H iw, by omega, fun F' H' y es g hb hl hg hy => q F' H' _ (b.gw g) (b.hst _ _ _ _ g hb iw) ⟨_, hy, es, rfl, hg, by omega⟩⟩
theorem gw_box {M : List Addr} {F H F' H' : Hp} {box : Addr} {W2 : Wd} (g : Gw ((boxW box).M ++ W2.M) F H F' H') (h : W2.M = []) : Gw [box] F H F' H' := g.mono fun x hx => by
  rw [h, List.append_nil] at hx
  exact hx
theorem ok_model (F : Df K mg "_law_model" s_l_model) (T : Txt K w mg C dl) (c__law_deed : Cl P w K mg base CX0 3 "_law_deed" sp_deed) (c__law_done : Cl P w K mg base CX0 1 "_law_done" sp_done) : Cl P w K mg base CX0 4 "_law_model" sp_model := by
  refine cl_of F sc_l_model (fun vs H Q E h => ?_) (fun _ _ _ _ _ _ us hl => match us, hl with | [_, _], _ => rfl) fun f cdv A outer s H vs Q E hr h => ?_
  · obtain ⟨_, _, _, rfl, _⟩ := h
    rfl
  · obtain ⟨F, box, many, rfl, sf, hb, hmany, q⟩ := h
    refine ⟨_, (pss_cons (ps_set (i := 2) sc_l_model.nd rfl (Or.inl rfl) (pe_lst (pa_cons (pe_lst (pa_cons (pe_lst pa_nil) (pa_cons (pe_lst pa_nil) (pa_cons pe_int (pa_cons pe_int pa_nil))))) pa_nil))) (pss_cons (ps_set (i := 3) sc_l_model.nd rfl (Or.inl rfl) (pe_lst pa_nil)) (pss_cons (ps_for PassesOwn.never rfl (pi_range1 (by rfl) T.range (pa_cons (pv 1) pa_nil)) (pg_name (i := 4) sc_l_model.nd rfl (Or.inl rfl)) (pss_cons (ps_expr (pe_bm PySem.F.plainAttrs_list PySem.F.slot_list_append PySem.F.type_list_append mt_append (pv 3) (pa_cons (pe_cl c__law_deed hr (by decide) rfl (pa_cons (pv 0) (pa_cons (pe_ix (ix_listK K) (pv 2) (pe_un un_neg pe_int) (fun _ _ => rfl)) pa_nil))) pa_nil))) (pss_one (ps_expr (pe_bm PySem.F.plainAttrs_list PySem.F.slot_list_append PySem.F.type_list_append mt_append (pv 2) (pa_cons (pe_cl c__law_done hr (by decide) rfl (pa_cons (pe_ix (ix_listK K) (pv 2) (pe_un un_neg pe_int) (fun _ _ => rfl)) (pa_cons (pe_ix (ix_listK K) (pv 3) (pe_un un_neg pe_int) (fun _ _ => rfl)) pa_nil))) pa_nil)))))) (pss_one (ps_ret (pe_lst (pa_cons (pv 3) (pa_cons (pv 2) pa_nil)))))))), ?_⟩
    have e0 : (start ["_law_box", "_law_many", "_law_models", "_law_deeds", "_law_turn"] [.ref box, .int (many : Int)]) = [some (.ref box), some (.int (many : Int)), none, none, none] := rfl
    rw [e0]
    -- models = [[[], [], 0, 0]]
    have hin : Pr (boxW box) (tLst (tCons (tLst tNil) (tCons (tLst tNil) (tCons (tC (.int 0)) (tCons (tC (.int 0)) tNil))))) [some (.ref box), some (.int (many : Int)), none, none, none] F H (.dt md0.d) :=
      pr_lst (ds := [.list [], .list [], .int 0, .int 0]) (prd_cons (pr_lst prd_nil (Nat.zero_le _)) (prd_cons (pr_lst prd_nil (Nat.zero_le _)) (prd_cons pr_int (prd_cons pr_int prd_nil)))) (by decide)
    refine q_asg (lst_one (hin F H (Gw.refl sf) hb _ fun F1 H1 v1 g1 i1 s1 => ⟨by show 1 ≤ sizeLine; decide, fun lm hlm => ?_⟩))
    -- deeds = []
    refine q_asg ⟨Nat.zero_le _, fun ld hld => ?_⟩
    have nml : lm ≠ ld := fun z => by rw [← z, upd_same] at hld; cases hld
    have g1' : Gw [box] F H F1 H1 := g1
    have hb1 : BoxAt box F1 H1 := i1
    obtain ⟨_, _, _, hbx, _, _⟩ := hb.at_
    have hbn : H box ≠ none := nn hbx
    have hlm0 : H lm = none := g1'.back hlm
    have g2 : Gw [box] F H F1 (upd H1 lm (.lst [v1])) := g1'.fresh hlm
    have hld0 : H ld = none := g2.back hld
    have g3 : Gw [box] F H F1 (upd (upd H1 lm (.lst [v1])) ld (.lst [])) := g2.fresh hld
    have nlm : lm ≠ box := fun z => hbn (z ▸ hlm0)
    have nld : ld ≠ box := fun z => hbn (z ▸ hld0)
    have hb3 : BoxAt box F1 (upd (upd H1 lm (.lst [v1])) ld (.lst [])) := by
      obtain ⟨⟨dg, n, ds, h1, h2, h3⟩, h4⟩ := hb1
      exact ⟨⟨dg, n, ds, by rw [upd_ne (Ne.symm nld), upd_ne (Ne.symm nlm)]; exact h1, h2, h3⟩, h4⟩
    have hown : ∀ (xs ys : List V), ∀ x ∈ (rawW [(lm, HO.lst xs), (ld, HO.lst ys)]).own, x ≠ box := fun xs ys x hx => by
      have : x = lm ∨ x = ld := by simpa [rawW] using hx
      rcases this with rfl | rfl <;> assumption
    refine q_forR (W := boxW box) (F := F1) (n := many) g3.fh hb3 (pr_dt (i := 1) rfl (.int _)) (by omega)
      (fun i σ' H' => ∃ (F' : Hp) (es : List Deed) (xs ys : List V) (o4 : Option V), σ' = [some (.ref box), some (.int (many : Int)), some (.ref lm), some (.ref ld), o4] ∧ Gw [box] F H F' H' ∧ BoxAt box F' H' ∧ F' lm = none ∧ F' ld = none ∧ H' lm = some (.lst xs) ∧ H' ld = some (.lst ys) ∧
        es.length = i ∧ Gd es ∧ DtA F' xs ((mdls es).map Md.d) ∧ DtA F' ys (es.map Deed.d)) (fun F2 H2 g4 i2 => ?_) (fun i σ' H' hi h => ?_) (fun σ' H' h => ?_)
    · have fl1 : F1 lm = none := same_fnone g1.fh hlm
      have fl2 : F1 ld = none := same_fnone g2.fh hld
      have e1 : upd (upd H1 lm (.lst [v1])) ld (.lst []) lm = some (.lst [v1]) := by rw [upd_ne nml, upd_same]
      have e2 : upd (upd H1 lm (.lst [v1])) ld (.lst []) ld = some (.lst []) := upd_same
      have g4' : Gw [box] F1 (upd (upd H1 lm (.lst [v1])) ld (.lst [])) F2 H2 := g4
      exact ⟨F2, [], [v1], [], none, rfl, g3.trans g4', i2, g4.fnone (nn e1) fl1, g4.fnone (nn e2) fl2, g4'.keep lm _ (by simpa using nlm) e1, g4'.keep ld _ (by simpa using nld) e2, rfl, gd_nil, .cons (Dt.mono g4.ff s1) .nil, .nil⟩
    · obtain ⟨F', es, xs, ys, o4, rfl, g, hb', f1, f2, h1, h2, hl, hgd, hx, hy⟩ := h
      have hgen := gd_last hgd
      obtain ⟨l0, hml⟩ := mdls_last es
      have hx' := hx
      rw [hml, List.map_append] at hx'
      obtain ⟨xs0, wm, rfl, hwm⟩ : ∃ xs0 wm, xs = xs0 ++ [wm] ∧ Dt F' wm (run md0 es).d := by
        have hlen := hx'.len
        rw [List.length_append] at hlen
        simp only [List.map_cons, List.map_nil, List.length_singleton, List.length_map] at hlen
        refine ⟨xs.take l0.length, xs[l0.length]'(by omega), ?_, ?_⟩
        · have := List.take_append_drop l0.length xs
          rw [List.drop_eq_getElem_cons (by omega), List.drop_eq_nil_of_le (by omega)] at this
          exact this.symm
        · obtain ⟨d, hd, hdx⟩ := hx'.get (i := l0.length) (x := xs[l0.length]'(by omega)) (List.getElem?_eq_getElem (by omega))
          rw [List.getElem?_append_right (by rw [List.length_map]; exact Nat.le_refl _)] at hd
          simp only [List.length_map, Nat.sub_self, List.map_cons, List.map_nil] at hd
          have : (run md0 es).d = d := by simpa using hd
          rw [this]; exact hdx
      refine (?_ : tSeq _ _ _ [some (.ref box), some (.int (many : Int)), some (.ref lm), some (.ref ld), some (.int (i : Int))] H')
      have iW : (andW (boxW box) (rawW [(lm, HO.lst (xs0 ++ [wm])), (ld, HO.lst ys)])).I F' H' := ⟨hb', raw2 h1 f1 h2 f2⟩
      have hml2 := hx.len
      rw [List.length_map] at hml2
      have hmdl : (mdls es).length = es.length + 1 := by unfold mdls; rw [List.length_map, List.length_range]
      have hyl := hy.len
      rw [List.length_map] at hyl
      refine q_append (W := andW (boxW box) (rawW [(lm, .lst (xs0 ++ [wm])), (ld, .lst ys)])) (F := F') (l := ld) (i := 3) g.fh iW rfl h2 (fun z => nld (by simpa [andW, boxW, rawW] using z)) (by omega)
        (pr_call (sg_deed (boxIn_and (hown _ _)) hgen (by omega)) (pra_cons (pr_var rfl) (pra_cons (pr_ixLastO (v := wm) (xs := xs0) (fun F H i => (i.2 (lm, .lst (xs0 ++ [wm])) (by simp)).1) rfl hwm) pra_nil))) fun F2 H2 v2 g2 i2 s2 => ?_
      obtain ⟨d2, hd2, e2, rfl, hgood⟩ := s2
      have g2' : Gw [box] F' H' F2 H2 := gw_box (M := []) g2 rfl
      have sl2 := i2.2 (ld, .lst ys) (by simp)
      have sm2 := i2.2 (lm, .lst (xs0 ++ [wm])) (by simp)
      have gA : Gw [box] F H F2 (upd H2 ld (.lst (ys ++ [v2]))) := (g.trans g2').write sl2.2 (.inl hld0)
      have hbA : BoxAt box F2 (upd H2 ld (.lst (ys ++ [v2]))) := by
        obtain ⟨⟨dg, n, ds, h1, h2, h3⟩, h4⟩ := i2.1
        exact ⟨⟨dg, n, ds, by rw [upd_ne (Ne.symm nld)]; exact h1, h2, h3⟩, h4⟩
      have smA : upd H2 ld (.lst (ys ++ [v2])) lm = some (.lst (xs0 ++ [wm])) := (upd_ne nml).trans sm2.1
      have wf := hgen.wf
      refine s_append (W := andW (boxW box) (rawW [(lm, .lst (xs0 ++ [wm])), (ld, .lst (ys ++ [v2]))])) (F := F2) (l := lm) (i := 2) (a := .dt (step (run md0 es) e2).d) gA.fh ⟨hbA, raw2 smA sm2.2 upd_same sl2.2⟩ rfl smA (fun z => nlm (by simpa [andW, boxW, rawW] using z)) (by omega)
        (pr_call (sg_done (good_named hgood) (by have := wf.few; omega) (by have := wf.few2; omega)) (pra_cons (pr_ixLastO (v := wm) (xs := xs0) (fun F H i => (i.2 (lm, .lst (xs0 ++ [wm])) (by simp)).1) rfl (hwm.mono g2.ff)) (pra_cons (pr_ixLastO (v := v2) (xs := ys) (fun F H i => (i.2 (ld, .lst (ys ++ [v2])) (by simp)).1) rfl hd2) pra_nil))) fun F3 H3 v3 g3 i3 s3 => ?_
      have g3' : Gw [box] F2 (upd H2 ld (.lst (ys ++ [v2]))) F3 H3 := gw_box (M := []) g3 rfl
      have sl3 := i3.2 (ld, .lst (ys ++ [v2])) (by simp)
      have sm3 := i3.2 (lm, .lst (xs0 ++ [wm])) (by simp)
      have gB : Gw [box] F H F3 (upd H3 lm (.lst (xs0 ++ [wm] ++ [v3]))) := (gA.trans g3').write sm3.2 (.inl hlm0)
      have hbB : BoxAt box F3 (upd H3 lm (.lst (xs0 ++ [wm] ++ [v3]))) := by
        obtain ⟨⟨dg, n, ds, h1, h2, h3⟩, h4⟩ := i3.1
        exact ⟨⟨dg, n, ds, by rw [upd_ne (Ne.symm nlm)]; exact h1, h2, h3⟩, h4⟩
      refine ⟨F3, es ++ [e2], _, _, _, rfl, gB, hbB, sm3.2, sl3.2, upd_same, (upd_ne (Ne.symm nml)).trans sl3.1, by rw [List.length_append, List.length_singleton, hl], gd_snoc hgd (hl ▸ hgood), ?_, ?_⟩
      · rw [mdls_snoc, List.map_append]
        exact ((hx.mono g2.ff).mono g3.ff).snoc s3
      · rw [List.map_append]
        exact ((hy.mono g2.ff).snoc hd2).mono g3.ff
    · obtain ⟨F', es, xs, ys, o4, rfl, g, hb', f1, f2, h1, h2, hl, hgd, hx, hy⟩ := h
      -- frozen
      have gf1 : Gw [box] F H (upd F' ld (.lst ys)) H' := g.freeze f2 hld0 h2
      have f1' : upd F' ld (.lst ys) lm = none := (upd_ne nml).trans f1
      have gf2 : Gw [box] F H (upd (upd F' ld (.lst ys)) lm (.lst xs)) H' := gf1.freeze f1' hlm0 h1
      have sF : Same F' (upd (upd F' ld (.lst ys)) lm (.lst xs)) := (up_same f2).trans (up_same f1')
      have hbF : BoxAt box (upd (upd F' ld (.lst ys)) lm (.lst xs)) H' := by
        obtain ⟨⟨dg, n, ds, h1, h2, h3⟩, h4⟩ := hb'
        exact ⟨⟨dg, n, ds, h1, h2, sF _ _ h3⟩, by rw [upd_ne (Ne.symm nlm), upd_ne (Ne.symm nld)]; exact h4⟩
      have dld : Dt (upd (upd F' ld (.lst ys)) lm (.lst xs)) (.ref ld) (.list (es.map Deed.d)) := .lst ((upd_ne (Ne.symm nml)).trans upd_same) (hy.mono sF)
      have dlm : Dt (upd (upd F' ld (.lst ys)) lm (.lst xs)) (.ref lm) (.list ((mdls es).map Md.d)) := .lst upd_same (hx.mono sF)
      refine s_ret (W := boxW box) (F := upd (upd F' ld (.lst ys)) lm (.lst xs)) (a := .dt (bothD es)) gf2.fh hbF (pr_lst (prd_cons (pr_dt (i := 3) rfl dld) (prd_cons (pr_dt (i := 2) rfl dlm) prd_nil)) (by simp only [List.length]; omega)) fun F3 H3 v3 g3 i3 s3 => ?_
      exact q F3 H3 v3 es (gf2.trans g3) i3 hl hgd s3

/-! ### _law_is_it -/
-- slots: 0 _law_desk, 1 _law_model_here, 2 _law_deeds, 3 _law_row
abbrev s_l_is_it : Stmt := top 47
theorem sc_l_is_it : FnScope ["_law_desk", "_law_model_here", "_law_deeds", "_law_row"] ["_law_desk", "_law_model_here", "_law_deeds"] (defScope s_l_is_it) := ⟨rfl, rfl, rfl, by decide +kernel, rfl, by decide +kernel, by decide +kernel⟩
def sp_is_it (C : Addr) : Sp := fun vs H Q _ => ∃ (F : Hp) (p le lb : Addr) (m : Md) (es : List PyData) (v1 v2 : V), vs = [.ref p, v1, v2] ∧ Same F H ∧ DeskAt C p le lb m es F H ∧ Wf m ∧ Dt F v1 m.d ∧ Dt F v2 (.list es) ∧ (∀ d ∈ es, Sh 3 d) ∧ ∀ F' H', Gw [] F H F' H' → Q (.bl true) H'
theorem sg_is_it {W : Wd} {p le lb : Addr} {m : Md} {es : List PyData} (hI : ∀ F H, W.I F H → DeskAt C p le lb m es F H) (hm : Wf m) (hs : ∀ d ∈ es, Sh 3 d) : Sg W (sp_is_it C) [.raw (.ref p), .dt m.d, .dt (.list es)] (.dt (.bool true)) := fun F H vs sf i ha Q E q => by
  obtain ⟨v, r, rfl, rfl, v1, r1, rfl, h1, v2, r2, rfl, h2, rfl⟩ := ha
  exact ⟨F, p, le, lb, m, es, v1, v2, rfl, sf, hI F H i, hm, h1, h2, hs, fun F' H' g => q F' H' _ g.pure (W.st _ _ _ _ g i) (.bl _)⟩
theorem sh_parts {m : Md} (wf : Wf m) : Sh 3 (partsD m) := sh_tup fun d hd => by
  obtain ⟨l, hl, rfl⟩ := List.mem_map.mp hd
  exact partsTo_sh wf _ _ l hl
theorem sh_nums (m : Md) : Sh 2 (numsD m) := sh_tup fun d hd => by
  obtain ⟨k, _, rfl⟩ := List.mem_map.mp hd
  exact sh_int k
theorem lay_net : PyData.canLay0 (.str "net") = true := by
  first
    | (simp only [PyData.canLay0]; decide +kernel)
    | decide +kernel
theorem sh_net {m : Md} (wf : Wf m) : Sh 4 (netD m) := sh_tup fun d hd => by
  simp only [List.mem_cons, List.not_mem_nil, or_false] at hd
  rcases hd with rfl | rfl | rfl
  · exact (sh_str lay_net).mono (by decide)
  · exact (sh_names wf.short).mono (by decide)
  · refine sh_tup fun d hd => ?_
    obtain ⟨r, _, rfl⟩ := List.mem_map.mp hd
    exact sh_rd r
theorem ok_is_it (F : Df K mg "_law_is_it" s_l_is_it) (T : Txt K w mg C dl) (c_log : Ml P w K mg base C CX0 1 "log" (sp_log C)) (c_bound : Ml P w K mg base C CX0 1 "bound" (sp_rd C fun m => .int m.k)) (c_numbers : Ml P w K mg base C CX0 1 "numbers" (sp_rd C numsD))
    (c_parts : Ml P w K mg base C CX0 2 "parts" (sp_parts C)) (c_net : Ml P w K mg base C CX0 2 "net" (sp_net C)) (c__law_parts : Cl P w K mg base CX0 1 "_law_parts" (sp_of partsD)) (c__law_net_of : Cl P w K mg base CX0 1 "_law_net_of" (sp_of netD)) : Cl P w K mg base CX0 3 "_law_is_it" (sp_is_it C) := by
  refine cl_of F sc_l_is_it (fun vs H Q E h => ?_) (fun _ _ _ _ _ _ us hl => match us, hl with | [_, _, _], _ => rfl) fun f cdv A outer s H vs Q E hr h => ?_
  · obtain ⟨_, _, _, _, _, _, _, _, rfl, _⟩ := h
    rfl
  · obtain ⟨F, p, le, lb, m, es, v1, v2, rfl, sf, da, wf, h1, h2, hs, q⟩ := h
    refine ⟨_, (pss_cons (ps_if (PW.pt (pw_or (pt_cmpR (op_neD hr.units) (pe_ml0 c_log hr (by decide) (pv 0)) (pe_callTy call_tuple_of (by rfl) T.tuple_ boot_tuple (pa_cons (pv 2) pa_nil)) (nomark _)) (pw_or1 (pt_cmpR op_ne (pe_ml0 c_bound hr (by decide) (pv 0)) (pe_ix (ix_listK K) (pv 1) pe_int (fun _ _ => rfl)) (nomark _))))) (pss_one (ps_ret pe_bl)) pss_nil) (pss_cons (ps_if (PW.pt (pw_or (pt_cmpR (op_neD hr.units) (pe_ml0 c_numbers hr (by decide) (pv 0)) (pe_callTy call_tuple_of (by rfl) T.tuple_ boot_tuple (pa_cons (pe_lc (own := [("_law_row", 3)]) (g := gName 3) rfl sc_l_is_it.nd (pi_list (pe_ix (ix_listK K) (pv 1) pe_int (fun _ _ => rfl))) (blkOk_by (N := ["_law_desk", "_law_model_here", "_law_deeds", "_law_row"]) (sc := defScope s_l_is_it) (by decide +kernel)) (fun _ _ _ _ _ => pg_name (i := 3) sc_l_is_it.nd rfl (Or.inl rfl)) (fun _ _ _ _ _ => pts_nil) (fun _ _ _ _ _ => (pe_ix (ix_tupK K) (pv 3) pe_int (fun _ _ => rfl)))) pa_nil)) (nomark _)) (pw_or1 (pt_cmpR (op_neD hr.units) (pe_ml0 c_parts hr (by decide) (pv 0)) (pe_cl c__law_parts hr (by decide) rfl (pa_cons (pv 1) pa_nil)) (nomark _))))) (pss_one (ps_ret pe_bl)) pss_nil) (pss_one (ps_ret (pe_or (pe_cmpR (op_eqD hr.units) (pe_ix (ix_listK K) (pv 1) pe_int (fun _ _ => rfl)) (pe_lst pa_nil) (nomark _)) (pe_one (pe_cmpR (op_eqD hr.units) (pe_ml0 c_net hr (by decide) (pv 0)) (pe_cl c__law_net_of hr (by decide) rfl (pa_cons (pv 1) pa_nil)) (nomark _)))))))), ?_⟩
    have e0 : (start ["_law_desk", "_law_model_here", "_law_deeds", "_law_row"] [.ref p, v1, v2]) = [some (.ref p), some v1, some v2, none] := rfl
    rw [e0]
    have hrows : m.rows.length ≤ 10000 := Nat.le_trans wf.few2 (by decide)
    have hI : ∀ F H, (deskW C p le lb m es).I F H → DeskAt C p le lb m es F H := fun _ _ z => z
    have hp : ∀ (mm : Str), (∀ {pm pr : Addr} {a b : Int}, (fsD pm pr a b le lb).lookup mm = none) → ∀ F H, (deskW C p le lb m es).I F H → ∃ dx fs, H p = some (.ins C dx fs) ∧ fs.lookup mm = none := fun mm hmm F H i => by
      obtain ⟨dx, pm, pr, e1, _⟩ := (hI F H i).ins
      exact ⟨dx, _, e1, hmm⟩
    have hlog : Sh 4 (.tuple es) := sh_tup hs
    -- log, bound
    refine q_when (W := deskW C p le lb m es) (F := F) (b := false) sf da (prt_to (prt_or (k := false) (l := false) (prt_to (prt_test (pr_neD (hlog.ok (by decide)) (hlog.ok (by decide)) (pr_meth (sg_log hI) (pr_var rfl) (hp "log" lk_log) pra_nil) (pr_tupleL (pr_dt (i := 2) rfl h2)))) (by rw [hlog.refl]; rfl)) fun _ =>
      prt_to (prt_test (pr_neI (pr_meth (sg_rd (f := fun m => .int m.k) hI hrows) (pr_var rfl) (hp "bound" lk_bound) pra_nil) (pr_m3 (i := 1) rfl h1))) (by simp)) rfl) (fun z => nomatch z) fun _ F1 H1 g1 i1 => ?_
    have h1' := h1.mono g1.ff
    -- numbers, parts
    have hc : ∀ {F1 H1 : Hp}, Dt F1 v1 m.d → Pr (deskW C p le lb m es) (tLc (iList K (tOp (rIxL K) (tVar 1) (tC (.int 1)))) (gName 3) tYes (tOp (rIxT K) (tVar 3) (tC (.int 0))) [3]) [some (.ref p), some v1, some v2, none] F1 H1 (.dt (.list (((m.rows.map Row.d).filter fun _ => true).map (item 0)))) := fun {F1 H1} h1 =>
      pr_lcL (W := deskW C p le lb m es) (K := K) (σ := [some (.ref p), some v1, some v2, none]) (F := F1) (H := H1) (j := 3) (vs := [3]) (tt := tYes) (te' := tOp (rIxT K) (tVar 3) (tC (.int 0))) (fun _ => true) (item 0) (pr_m1 (K := K) (i := 1) rfl h1) (by rw [List.length_map]; exact hrows) (fun _ => rfl)
      (fun d hd F1 H1 v g _ hv => prt_yes) (fun d hd F1 H1 v g _ hv _ => by
        obtain ⟨r, _, rfl⟩ := List.mem_map.mp hd
        exact pr_ixT (n := 0) rfl rfl (pr_dt rfl hv) pr_int)
    have e1 : ((m.rows.map Row.d).filter fun _ => true).map (item 0) = (m.rows.map fun r => (r.n : Int)).map .int := by
      rw [List.filter_eq_self.mpr (fun _ _ => rfl), List.map_map, List.map_map]; rfl
    rw [e1] at hc
    refine q_when (W := deskW C p le lb m es) (F := F1) (b := false) g1.fh i1 (prt_to (prt_or (k := false) (l := false) (prt_to (prt_test (pr_neD ((sh_nums m).ok (by decide)) ((sh_nums m).ok (by decide)) (pr_meth (sg_rd (f := numsD) hI hrows) (pr_var rfl) (hp "numbers" lk_numbers) pra_nil) (pr_tupleL (hc h1')))) (by rw [(sh_nums m).refl]; rfl)) fun _ =>
      prt_to (prt_test (pr_neD ((sh_parts wf).ok (by decide)) ((sh_parts wf).ok (by decide)) (pr_meth (sg_parts hI wf) (pr_var rfl) (hp "parts" lk_parts) pra_nil) (pr_call (sg_of wf) (pra_cons (pr_dt (i := 1) rfl h1') pra_nil)))) (by rw [(sh_parts wf).refl]; rfl)) rfl) (fun z => nomatch z) fun _ F2 H2 g2 i2 => ?_
    have h1'' := h1'.mono g2.ff
    -- net
    refine s_ret (W := deskW C p le lb m es) (F := F2) (a := .dt (.bool true)) g2.fh i2 ?_ fun F3 H3 v3 g3 i3 s3 => ?_
    · have hmk : Sh 2 (.list (m.marks.map .str)) := sh_lst fun d hd => by
        obtain ⟨s, hs, rfl⟩ := List.mem_map.mp hd
        exact sh_name (wf.short s hs)
      by_cases hnil : m.marks = []
      · refine pr_to (pr_or (k := true) (l := true) (pr_to (pr_eqD (hmk.ok (by decide)) (sh_lst (n := 1) (ds := []) (fun _ h => nomatch h) |>.ok (by decide)) (pr_m0 (i := 1) rfl h1'') (pr_lst prd_nil (Nat.zero_le _))) (by rw [eqv_list_nil, hnil]; rfl)) fun z => nomatch z) rfl
      · refine pr_to (pr_or (k := false) (l := true) (pr_to (pr_eqD (hmk.ok (by decide)) (sh_lst (n := 1) (ds := []) (fun _ h => nomatch h) |>.ok (by decide)) (pr_m0 (i := 1) rfl h1'') (pr_lst prd_nil (Nat.zero_le _))) (by rw [eqv_list_nil]; simp [hnil])) fun _ => ?_) rfl
        exact pr_to (pr_eqD ((sh_net wf).ok (by decide)) ((sh_net wf).ok (by decide)) (pr_meth (sg_net hI wf hnil) (pr_var rfl) (hp "net" lk_net) pra_nil) (pr_call (sg_of wf) (pra_cons (pr_dt (i := 1) rfl h1'') pra_nil))) (by rw [(sh_net wf).refl])
    · cases s3
      exact q F3 H3 ((g1.trans g2).trans g3)
end
end K39
end

section
set_option Elab.async false
set_option linter.all false
set_option maxRecDepth 100000
set_option maxHeartbeats 4000000
namespace K39
open PySem PySem.Spec PyProof.Rows L2

/-- what the top says of the errors: BadEntry at Cb -/
structure ErrTxt (K : PySem.W.Frag) (mg : Str → Option Value) (Cb CL Cn Cs : Addr) : Prop where
  gLevelError : mg "LevelError" = some (.ref CL)
  gBadNet : mg "BadNet" = some (.ref Cn)
  gBadState : mg "BadState" = some (.ref Cs)
  gBadEntry : mg "BadEntry" = some (.ref Cb)
  teL : PySem.W.exmOne K (.ref Cb) (.ref CL) = some true
  teB : PySem.W.exmOne K (.ref Cb) (.ref Cb) = some true
  kN : PySem.W.kitOne K (.ref Cb) (.ref Cn) = some false
  kS : PySem.W.kitOne K (.ref Cb) (.ref Cs) = some false
  kB : PySem.W.kitOne K (.ref Cb) (.ref Cb) = some true
  kV : PySem.W.kitOne K (.ref Cb) (.type "ValueError") = some true
  xc : ExcC K Cb
  xf : XfC K Cb
  noN : PySem.W.findIn K (.ref Cb) "place" = some none
/-- an object that stands -/
def hW (a : Addr) (o : HO) : Wd where
  M := []
  own := [a]
  I := fun _ H => H a = some o
  sub := fun _ h => nomatch h
  al := fun F H i x hx => by
    have : x = a := by simpa using hx
    rw [this]; exact nn i
  st' := fun F H F' H' sf ow i => (ow a (by simp)).2.trans i
section
variable {W : Wd} {σ : L2.St} {F H : Hp} {K : PySem.W.Frag}
theorem pr_isD {Cb a dd : Addr} {fs : List (Str × V)} {x : V} {cv : Value} {b : Bool} {j : Nat} (hj : σ[j]? = some (some (.ref a))) (hI : ∀ F H, W.I F H → H dd = some (.xd fs)) (hx : ∀ u, RelV x u → u = cv) (hk : PySem.W.kitOne K (.ref Cb) cv = some b) :
    Pr W (tCB (rIsD K Cb a (.ref Cb) (some dd)) (tCons (tVar j) (tCons (tC x) tNil))) σ F H (.dt (.bool b)) :=
  fun F1 H1 g i Q q => ⟨_, hj, x, cv, b, dd, fs, rfl, rfl, rfl, hI _ _ i, hx, hk, q F1 H1 _ (Gw.refl g.fh) i (.bl b)⟩
end
section
variable {P : Program} {w : World} {K : PySem.W.Frag} {mg : Str → Option Value} {base : Heap} {C dl Cb fI CL Cn Cs : Addr}

/-! ### _law_place -/
-- slots: 0 _law_desk, 1 _law_deed_here, 2 e
abbrev s_l_place : Stmt := top 48
theorem sc_l_place : FnScope ["_law_desk", "_law_deed_here", "e"] ["_law_desk", "_law_deed_here"] (defScope s_l_place) := ⟨rfl, rfl, rfl, by decide +kernel, rfl, by decide +kernel, by decide +kernel⟩
def sp_place (C : Addr) : Sp := fun vs H Q _ => ∃ (F : Hp) (p le lb : Addr) (m : Md) (es : List PyData) (v : V) (d : PyData), vs = [.ref p, v] ∧ Same F H ∧ DeskAt C p le lb m es F H ∧ Wf m ∧ Dt F v d ∧ DOk d ∧
  (canDo m es.length d = false → ∀ F' H', Gw [] F H F' H' → Q (.int es.length) H') ∧
  (canDo m es.length d = true → ∀ e, d = e.d → ∀ F' H', Gw [p, le, lb] F H F' H' → DeskAt C p le lb (step m e) (es ++ [d]) F' H' → Q (.int (-1)) H')
theorem lk_place {v : V} : List.lookup ("place" : Str) [(("place" : Str), v)] = some v := by simp [List.lookup]
theorem ok_place (F : Df K mg "_law_place" s_l_place) (T : Txt K w mg C dl) (TE : ErrTxt K mg Cb CL Cn Cs) (c_do : Ml P w K mg base C (L2.CX P w) 4 "do" (sp_do C Cb)) : Cl P w K mg base CX0 5 "_law_place" (sp_place C) := by
  refine cl_of F sc_l_place (fun vs H Q E h => ?_) (fun _ _ _ _ _ _ us hl => match us, hl with | [_, _], _ => rfl) fun f cdv A outer s H vs Q E hr h => ?_
  · obtain ⟨_, _, _, _, _, _, _, _, rfl, _⟩ := h
    rfl
  · obtain ⟨F, p, le, lb, m, es, v, d, rfl, sf, da, wf, hv, hd, qE, qN⟩ := h
    refine ⟨_, (pss_cons (ps_try_as (i := 2) (Wout := fun _ _ _ _ => False) rfl rfl sc_l_place.nd rfl rfl ⟨rfl, by decide, Or.inl TE.gLevelError⟩ takes0 (fun W pn xe tk _ => (pss_one (ps_expr (pe_mlS c_do hr (by decide) (fun σ => passAt tk σ) (pv 0) (pa_cons (pv 1) pa_nil))))) (fun a oe cls d pn hz hf => (pss_cons (ps_if (PW.pt (pw_or (pt_val (pe_callB (call_isD TE.xc hz hf) (by rfl) T.isinstance_ PyProof.Rows.boot_isinstance (pa_cons (pv 2) (pa_cons (pe_g (v := .ref Cn) ⟨_, TE.gBadNet, rfl⟩) pa_nil)))) (pw_or (pt_val (pe_callB (call_isD TE.xc hz hf) (by rfl) T.isinstance_ PyProof.Rows.boot_isinstance (pa_cons (pv 2) (pa_cons (pe_g (v := .ref Cs) ⟨_, TE.gBadState, rfl⟩) pa_nil)))) (pw_or (pt_not (pt_val (pe_callB (call_isD TE.xc hz hf) (by rfl) T.isinstance_ PyProof.Rows.boot_isinstance (pa_cons (pv 2) (pa_cons (pe_g (v := .ref Cb) ⟨_, TE.gBadEntry, rfl⟩) pa_nil))))) (pw_or1 (pt_not (pt_val (pe_callB (call_isD TE.xc hz hf) (by rfl) T.isinstance_ PyProof.Rows.boot_isinstance (pa_cons (pv 2) (pa_cons (pe_bltn (v := .ty "ValueError") (by rfl) T.ValueError_ (by decide +kernel) rfl) pa_nil)))))))))) (pss_one (ps_ret (pe_un un_neg pe_int))) pss_nil) (pss_one (ps_ret (pe_xf TE.xf TE.noN hz hf (pv 2))))))) (pss_one (ps_ret (pe_un un_neg pe_int)))), ?_⟩
    have e0 : (start ["_law_desk", "_law_deed_here", "e"] [.ref p, v]) = [some (.ref p), some v, none] := rfl
    rw [e0]
    obtain ⟨dx, pm, pr, e1, _⟩ := da.ins
    refine ⟨_, rfl, p, dx, _, rfl, e1, lk_do, _, rfl, F, p, le, lb, m, es, v, d, rfl, sf, da, wf, hv, hd, fun hc F1 H1 dd g1 hdd => ?_, fun hc e he F1 H1 g1 da1 => ?_⟩
    · refine ⟨true, TE.teL, fun _ a ha => ?_, fun z => nomatch z⟩
      have eR : ∀ {x : Addr} (u : Value), RelV (.ref x) u → u = .ref x := fun u h => h
      refine q_when (W := hW dd (.xd [("place", .int es.length)])) (F := F1) (b := false) g1.fh hdd (prt_to (prt_or (k := false) (l := false) (prt_B (pr_isD (fs := [("place", .int es.length)]) rfl (fun _ _ i => i) (fun u h => h) TE.kN)) fun _ => prt_to (prt_or (k := false) (l := false) (prt_B (pr_isD (fs := [("place", .int es.length)]) rfl (fun _ _ i => i) (fun u h => h) TE.kS)) fun _ =>
        prt_to (prt_or (k := false) (l := false) (prt_not (k := true) (prt_B (pr_isD (fs := [("place", .int es.length)]) rfl (fun _ _ i => i) (fun u h => h) TE.kB))) fun _ => prt_not (k := true) (prt_B (pr_isD (fs := [("place", .int es.length)]) rfl (fun _ _ i => i) (fun u h => h) TE.kV))) rfl) rfl) rfl) (fun z => nomatch z) fun _ F2 H2 g2 i2 => ?_
      refine ⟨_, rfl, rfl, rfl, dd, _, _, rfl, i2, lk_place, ?_⟩
      exact qE hc F2 H2 (g1.trans g2)
    · exact ⟨1, rfl, qN hc e he F1 H1 g1 da1⟩
theorem sg_place_no {W : Wd} {p le lb : Addr} {m : Md} {es : List PyData} {d : PyData} (hI : ∀ F H, W.I F H → DeskAt C p le lb m es F H) (hm : Wf m) (hd : DOk d) (hc : canDo m es.length d = false) : Sg W (sp_place C) [.raw (.ref p), .dt d] (.dt (.int es.length)) := fun F H vs sf i ha Q E q => by
  obtain ⟨v, r, rfl, rfl, v1, r1, rfl, h1, rfl⟩ := ha
  exact ⟨F, p, le, lb, m, es, v1, d, rfl, sf, hI F H i, hm, h1, hd, fun _ F' H' g => q F' H' _ g.pure (W.st _ _ _ _ g i) (.int _), fun h => by rw [hc] at h; cases h⟩

/-! ### _law_replayed -/
-- slots: 0 _law_log, 1 e
abbrev s_l_replayed : Stmt := top 49
theorem sc_l_replayed : FnScope ["_law_log", "e"] ["_law_log"] (defScope s_l_replayed) := ⟨rfl, rfl, rfl, by decide +kernel, rfl, by decide +kernel, by decide +kernel⟩
def sp_replayed : Sp := fun vs H Q _ => ∃ (F : Hp) (v : V) (ds : List PyData) (ms : Nat → Md) (n : Nat) (d : PyData), vs = [v] ∧ Same F H ∧ Dt F v (.tuple ds) ∧ Path ms ds n ∧ (∀ d ∈ ds, DOk d) ∧ ds[n]? = some d ∧ canDo (ms n) n d = false ∧ ∀ F' H', Gw [] F H F' H' → Q (.int n) H'
theorem ok_replayed (F : Df K mg "_law_replayed" s_l_replayed) (T : Txt K w mg C dl) (TE : ErrTxt K mg Cb CL Cn Cs) (c_replay : Cl P w K mg base (L2.CX P w) 5 "replay" (sp_replay C Cb)) : Cl P w K mg base CX0 6 "_law_replayed" sp_replayed := by
  refine cl_of F sc_l_replayed (fun vs H Q E h => ?_) (fun _ _ _ _ _ _ us hl => match us, hl with | [_], _ => rfl) fun f cdv A outer s H vs Q E hr h => ?_
  · obtain ⟨_, _, _, _, _, _, rfl, _⟩ := h
    rfl
  · obtain ⟨F, v, ds, ms, n, d, rfl, sf, hv, path, hok, hn, hc, q⟩ := h
    refine ⟨_, (pss_cons (ps_try_as (i := 1) (Wout := fun _ _ _ _ => False) rfl rfl sc_l_replayed.nd rfl rfl ⟨rfl, by decide, Or.inl TE.gBadEntry⟩ takes0 (fun W pn xe tk _ => (pss_one (ps_expr (pe_clS c_replay hr (by decide) rfl (fun σ => passAt tk σ) (pa_cons (pv 0) pa_nil))))) (fun a oe cls d pn hz hf => (pss_one (ps_ret (pe_xf TE.xf TE.noN hz hf (pv 1)))))) (pss_one (ps_ret (pe_un un_neg pe_int)))), ?_⟩
    have e0 : (start ["_law_log", "e"] [v]) = [some v, none] := rfl
    rw [e0]
    have hlt : n < ds.length := (List.getElem?_eq_some_iff.mp hn).1
    refine ⟨_, rfl, F, v, ds, ms, n, rfl, sf, hv, path, by omega, hok, fun d' hd' => ⟨?_, fun F1 H1 dd g1 hdd => ?_⟩, fun z => absurd z (by omega)⟩
    · rw [hn] at hd'
      cases hd'
      exact hc
    · refine ⟨true, TE.teB, fun _ a ha => ?_, fun z => nomatch z⟩
      exact ⟨_, rfl, rfl, rfl, dd, _, _, rfl, hdd, lk_place, q F1 H1 g1⟩
theorem sg_replayed {W : Wd} {ds : List PyData} {ms : Nat → Md} {n : Nat} {d : PyData} (path : Path ms ds n) (hok : ∀ d ∈ ds, DOk d) (hn : ds[n]? = some d) (hc : canDo (ms n) n d = false) : Sg W sp_replayed [.dt (.tuple ds)] (.dt (.int n)) := fun F H vs sf i ha Q E q => by
  obtain ⟨v, r, rfl, hv, rfl⟩ := ha
  exact ⟨F, v, ds, ms, n, d, rfl, sf, hv, path, hok, hn, hc, fun F' H' g => q F' H' _ g.pure (W.st _ _ _ _ g i) (.int _)⟩
end
end K39
end

section
set_option Elab.async false
set_option linter.all false
set_option maxRecDepth 100000
set_option maxHeartbeats 4000000
namespace K39
open PySem PySem.Spec PyProof.Rows L2

/-! ### deeds that may be handed over -/
theorem k_mark : ("mark" : Str) ∈ kinds := by unfold kinds; simp
theorem k_read : ("read" : Str) ∈ kinds := by unfold kinds; simp
theorem k_drop : ("drop" : Str) ∈ kinds := by unfold kinds; simp
theorem k_bound : ("bound" : Str) ∈ kinds := by unfold kinds; simp
theorem k_marks : ("marks" : Str) ∈ kinds := by unfold kinds; simp
theorem short_name {s : Str} (h : isNameS s = true) : Short (.str s) := fun t e => by
  cases e
  unfold isNameS at h
  simp only [Bool.and_eq_true, decide_eq_true_eq] at h
  omega
theorem short_int (i : Int) : Short (.int i) := fun t e => by cases e
theorem short_bool (i : Bool) : Short (.bool i) := fun t e => by cases e
theorem short_lit {s : Str} (h : s.length ≤ 1000) : Short (.str s) := fun t e => by cases e; exact h
theorem dok_kind {k : Str} {r : List PyData} (hk : k ∈ kinds) (h : ∀ x ∈ r, Short x) : DOk (.tuple (.str k :: r)) :=
  ⟨fun k' r' e => by cases e; exact hk, fun k' r' e => by cases e; exact h⟩
theorem dok_no {d : PyData} (h : ∀ k r, d ≠ .tuple (.str k :: r)) (h2 : ∀ k r, d = .tuple (k :: r) → ∀ x ∈ r, Short x) : DOk d := ⟨fun k r e => absurd e (h k r), h2⟩
theorem dok_mark {x : PyData} (h : Short x) : DOk (.tuple [.str "mark", x]) := dok_kind k_mark fun y hy => by
  have : y = x := by simpa using hy
  rw [this]; exact h
theorem dok_drop {x : PyData} (h : Short x) : DOk (.tuple [.str "drop", x]) := dok_kind k_drop fun y hy => by
  have : y = x := by simpa using hy
  rw [this]; exact h
theorem dok_bound {x : PyData} (h : Short x) : DOk (.tuple [.str "bound", x]) := dok_kind k_bound fun y hy => by
  have : y = x := by simpa using hy
  rw [this]; exact h
theorem dok_read {x y z : PyData} (h1 : Short x) (h2 : Short y) (h3 : Short z) : DOk (.tuple [.str "read", x, y, z]) := dok_kind k_read fun u hu => by
  simp only [List.mem_cons, List.not_mem_nil, or_false] at hu
  rcases hu with rfl | rfl | rfl <;> assumption
theorem lay_mark : PyData.canLay0 (.str "mark") = true := by
  first
    | (simp only [PyData.canLay0]; decide +kernel)
    | decide +kernel
theorem lay_read : PyData.canLay0 (.str "read") = true := by
  first
    | (simp only [PyData.canLay0]; decide +kernel)
    | decide +kernel
theorem lay_drop : PyData.canLay0 (.str "drop") = true := by
  first
    | (simp only [PyData.canLay0]; decide +kernel)
    | decide +kernel
theorem lay_bound : PyData.canLay0 (.str "bound") = true := by
  first
    | (simp only [PyData.canLay0]; decide +kernel)
    | decide +kernel
/-- a deed that can be done: handed over, laid -/
theorem can_names {m : Md} {c : Nat} {e : Deed} (h : canDo m c e.d = true) : match e with | .mark s => isNameS s = true | .read s t _ => isNameS s = true ∧ isNameS t = true | _ => True := by
  cases e with
  | mark s =>
    rw [canDo_mark] at h
    simp only [canMark, Bool.and_eq_true] at h
    exact h.2.1.1
  | read s t v =>
    rw [canDo_read] at h
    simp only [canRead, Bool.and_eq_true] at h
    exact ⟨h.2.1.1.1.1.1.1, h.2.1.1.1.1.1.2⟩
  | _ => trivial
theorem can_dok {m : Md} {c : Nat} {e : Deed} (h : canDo m c e.d = true) : DOk e.d := by
  have q := can_names h
  cases e with
  | mark s => exact dok_mark (short_name q)
  | read s t v => exact dok_read (short_name q.1) (short_name q.2) (short_int v)
  | drop n => exact dok_drop (short_int n)
  | bound k => exact dok_bound (short_int k)
theorem can_sh {m : Md} {c : Nat} {e : Deed} (h : canDo m c e.d = true) : Sh 3 e.d := by
  have q := can_names h
  refine Sh.mono (n := 2) ?_ (by decide)
  cases e with
  | mark s =>
      refine sh_tup fun d hd => ?_
      simp only [List.mem_cons, List.not_mem_nil, or_false] at hd
      rcases hd with rfl | rfl
      · exact sh_str lay_mark
      · exact sh_name q
  | read s t v =>
      refine sh_tup fun d hd => ?_
      simp only [List.mem_cons, List.not_mem_nil, or_false] at hd
      rcases hd with rfl | rfl | rfl | rfl
      · exact sh_str lay_read
      · exact sh_name q.1
      · exact sh_name q.2
      · exact sh_int _
  | drop n =>
      refine sh_tup fun d hd => ?_
      simp only [List.mem_cons, List.not_mem_nil, or_false] at hd
      rcases hd with rfl | rfl
      · exact sh_str lay_drop
      · exact sh_int _
  | bound k =>
      refine sh_tup fun d hd => ?_
      simp only [List.mem_cons, List.not_mem_nil, or_false] at hd
      rcases hd with rfl | rfl
      · exact sh_str lay_bound
      · exact sh_int _
theorem one_name {m : Md} (wf : Wf m) : isNameS (one m) = true ∧ isNameS (other m) = true := by
  have h : ∀ s ∈ m.marks ++ ([("ma" : Str), ("mb" : Str)] : List Str), isNameS s = true := fun s hs => by
    rcases List.mem_append.mp hs with hs | hs
    · exact wf.short s hs
    · simp only [List.mem_cons, List.not_mem_nil, or_false] at hs
      rcases hs with rfl | rfl <;> decide +kernel
  have l : 2 ≤ (m.marks ++ ([("ma" : Str), ("mb" : Str)] : List Str)).length := by rw [List.length_append]; simp
  refine ⟨?_, ?_⟩
  · unfold one
    rw [List.getD_eq_getElem?_getD, List.getElem?_eq_getElem (by omega)]
    exact h _ (List.getElem_mem _)
  · unfold other
    rw [List.getD_eq_getElem?_getD, List.getElem?_eq_getElem (by omega)]
    exact h _ (List.getElem_mem _)
theorem wrongs_ok {m : Md} (wf : Wf m) {d : PyData} (h : d ∈ wrongs m) : DOk d := by
  obtain ⟨h1, h2⟩ := one_name wf
  have s1 := short_name h1
  have s2 := short_name h2
  rcases List.mem_append.mp h with h | h
  · unfold bads at h
    simp only [List.mem_cons, List.not_mem_nil, or_false] at h
    rcases h with rfl | rfl | rfl | rfl | rfl | rfl | rfl | rfl | rfl | rfl | rfl | rfl | rfl | rfl | rfl | rfl | rfl | rfl | rfl | rfl | rfl | rfl | rfl | rfl | rfl | rfl | rfl
    · exact dok_no (fun k r e => by cases e) fun k r e => by cases e
    · exact dok_no (fun k r e => by cases e) fun k r e => by cases e
    · exact dok_no (fun k r e => by cases e) fun k r e => by cases e
    · exact dok_kind k_mark fun x hx => by cases hx
    · exact dok_kind k_marks fun x hx => by
        have : x = .str "zz" := by simpa using hx
        rw [this]; exact short_lit (by decide +kernel)
    · exact dok_kind k_mark fun x hx => by
        simp only [List.mem_cons, List.not_mem_nil, or_false] at hx
        rcases hx with rfl | rfl
        · exact s1
        · exact short_int _
    · exact dok_mark (short_lit (by decide +kernel))
    · exact dok_mark (short_lit (by decide +kernel))
    · exact dok_mark (short_lit (by decide +kernel))
    · exact dok_mark (short_int _)
    · exact dok_kind k_read fun x hx => by
        simp only [List.mem_cons, List.not_mem_nil, or_false] at hx
        rcases hx with rfl | rfl
        · exact s1
        · exact s2
    · exact dok_read s1 (short_lit (by decide +kernel)) (short_int _)
    · exact dok_read (short_lit (by decide +kernel)) s2 (short_int _)
    · exact dok_read s1 s1 (short_int _)
    · exact dok_read s1 s2 (short_int _)
    · exact dok_read s1 s2 (short_int _)
    · exact dok_read s1 s2 (short_bool _)
    · exact dok_read (short_int _) (short_int _) (short_int _)
    · exact dok_drop (short_int _)
    · exact dok_drop (short_int _)
    · exact dok_drop (short_bool _)
    · exact dok_drop (short_lit (by decide +kernel))
    · exact dok_bound (short_int _)
    · exact dok_bound (short_int _)
    · exact dok_bound (short_bool _)
    · exact dok_kind k_bound fun x hx => by
        simp only [List.mem_cons, List.not_mem_nil, or_false] at hx
        rcases hx with rfl | rfl <;> exact short_int _
    · exact dok_no (fun k r e => by cases e) fun k r e => by
        cases e
        intro x hx
        have : x = .int 1 := by simpa using hx
        rw [this]; exact short_int _
  · obtain ⟨s, hs, rfl⟩ := List.mem_map.mp h
    exact dok_mark (short_name (wf.short s hs))

/-! ### a desk at its bounds -/
def seqM (m : Md) (f : Nat → Deed) (k : Nat) : Md := run m ((List.range k).map f)
def seqD (f : Nat → Deed) (k : Nat) : List PyData := (List.range k).map fun j => (f j).d
theorem seqM_succ (m : Md) (f : Nat → Deed) (k : Nat) : seqM m f (k + 1) = step (seqM m f k) (f k) := by
  unfold seqM
  rw [List.range_succ, List.map_append, List.map_cons, List.map_nil, run_snoc]
theorem seqD_succ (f : Nat → Deed) (k : Nat) : seqD f (k + 1) = seqD f k ++ [(f k).d] := by
  unfold seqD
  rw [List.range_succ, List.map_append]; rfl
theorem seqD_len (f : Nat → Deed) (k : Nat) : (seqD f k).length = k := by unfold seqD; rw [List.length_map, List.length_range]
theorem seq_wf {m : Md} (wf : Wf m) {f : Nat → Deed} {c n : Nat} (h : ∀ k, k < n → canDo (seqM m f k) (c + k) (f k).d = true) : ∀ k, k ≤ n → Wf (seqM m f k) := by
  intro k
  induction k with
  | zero => intro _; exact wf
  | succ k ih =>
    intro hk
    rw [seqM_succ]
    exact wf_step (ih (by omega)) (h k (by omega))
def fM (k : Nat) : Deed := .mark (word k)
theorem full_marks : ∀ k, k < 16 → canDo (seqM md0 fM k) (0 + k) (fM k).d = true := by decide +kernel
theorem full_marks_no : canDo (seqM md0 fM 16) 16 (Deed.mark "zz").d = false := by decide +kernel
theorem full_marks_yes : canDo (seqM md0 fM 16) 16 (Deed.read "ma" "mb" 1).d = true := by decide +kernel
/-- two marks -/
def md2 : Md := ⟨["ma", "mb"], [], 0, 0⟩
theorem md2_is : seqM md0 fM 2 = md2 := by
  show (⟨[word 0, word 1], [], 0, 0⟩ : Md) = md2
  unfold md2
  have h0 : word 0 = "ma" := by decide +kernel
  have h1 : word 1 = "mb" := by decide +kernel
  rw [h0, h1]
def fR (k : Nat) : Deed := .read "ma" "mb" k
def mdR (k : Nat) : Md := ⟨["ma", "mb"], (List.range k).map fun j => ⟨j, 0, 1, j⟩, k, 0⟩
theorem ix_ma : ixOf ["ma", "mb"] "ma" = 0 := by decide +kernel
theorem ix_mb : ixOf ["ma", "mb"] "mb" = 1 := by decide +kernel
theorem seqR (k : Nat) : seqM md2 fR k = mdR k := by
  induction k with
  | zero => rfl
  | succ k ih =>
    rw [seqM_succ, ih]
    show (⟨["ma", "mb"], (List.range k).map (fun j => Row.mk j 0 1 j) ++ [Row.mk k (ixOf ["ma", "mb"] "ma") (ixOf ["ma", "mb"] "mb") k], k + 1, 0⟩ : Md) = mdR (k + 1)
    unfold mdR
    rw [ix_ma, ix_mb, List.range_succ, List.map_append]
    rfl
theorem names2 : isNameS "ma" = true ∧ isNameS "mb" = true ∧ decide (("ma" : Str) ∈ (["ma", "mb"] : List Str)) = true ∧ decide (("mb" : Str) ∈ (["ma", "mb"] : List Str)) = true ∧ decide (("ma" : Str) = "mb") = false := by decide +kernel
theorem can_R (k c : Nat) (v : Int) (hc : c < 1000) (hv : -1000000 ≤ v ∧ v ≤ 1000000) : canDo (mdR k) c (Deed.read "ma" "mb" v).d = decide (k < 80) := by
  obtain ⟨h1, h2, h3, h4, h5⟩ := names2
  rw [canDo_read]
  show (decide (c < 1000) && (isNameS "ma" && isNameS "mb" && decide (("ma" : Str) ∈ (["ma", "mb"] : List Str)) && decide (("mb" : Str) ∈ (["ma", "mb"] : List Str)) && !decide (("ma" : Str) = "mb") && decide (-1000000 ≤ v ∧ v ≤ 1000000) && decide (((List.range k).map fun j => Row.mk j 0 1 j).length < 80))) = _
  rw [h1, h2, h3, h4, h5, decide_eq_true hc, decide_eq_true hv, List.length_map, List.length_range]
  rfl
theorem can_R79 : canDo (mdR 80) 82 (Deed.drop 79).d = true := by
  rw [canDo_drop]
  simp only [canDrop, Bool.and_eq_true, decide_eq_true_eq, List.any_eq_true]
  exact ⟨by decide, ⟨79, 0, 1, 79⟩, List.mem_map.mpr ⟨79, List.mem_range.mpr (by decide), rfl⟩, rfl⟩
def fB (k : Nat) : Deed := .bound ((k % 21 : Nat) : Int)
theorem can_B (m : Md) (c k : Nat) : canDo m c (fB k).d = decide (c < 1000) := by
  show canDo m c (Deed.bound ((k % 21 : Nat) : Int)).d = _
  rw [canDo_bound]
  have h : canBound (.int ((k % 21 : Nat) : Int)) = true := by
    simp only [canBound, decide_eq_true_eq]
    omega
  rw [h, Bool.and_true]
section
variable {X : Cx} {CX : CXT} {k j : Nat} {C : Addr} {sp : Sp} {E : XK} {x m : Str} {p pos apos : Pos} {e o : Expr} {es : List Expr} {ta : TE} {t : TA}
theorem pe_clE (c : Cl X.prog X.w X.K X.mg X.base CX k x sp) (hr : Room j X.A) (hk : k ≤ j) (hg : Gl X x) (hx : Passes CX X E) (ha : PA X (e :: es) t) (hdb : (x == ("__debug__" : Str)) = false := by decide)
    (he : starEach (e :: es) X.env = (false, eval e X.env) :: starEach es X.env := by rfl) (hpl : (backTo pos (starEach es X.env)).any (·.1) = false := by rfl) : PE X (.Call (.Name x p) (e :: es) [] pos) (tCall sp [] E t) := by
  obtain ⟨f, fd, ps, G, hm, hkp, hb⟩ := c.ex
  exact pe_call G (hr.mono hk) hg hm hkp hb .nil hx ha hdb he hpl
end
section
variable {W : Wd} {σ : L2.St} {F H F1 H1 : Hp} {te ta tb tc to : TE} {tl tr : TA} {tt t u : TT} {a b c : Ar} {as : List Ar} {v w : V} {d e : PyData} {r : R2} {K : PySem.W.Frag} {D : Ends} {tu tw tz : TS}
/-- desk.do(e), e can be done -/
theorem st_do {C Cb p le lb : Addr} {m : Md} {es : List PyData} {i : Nat} {ed : Deed} (sf : Same F H) (iw : W.I F H) (hv : σ[i]? = some (some (.ref p))) (hI : ∀ F H, W.I F H → DeskAt C p le lb m es F H) (wf : Wf m) (hc : canDo m es.length ed.d = true) (h : Pr W te σ F H (.dt ed.d))
    (k : ∀ F1 H1 F2 H2, Gw W.M F H F1 H1 → W.I F1 H1 → Gw [p, le, lb] F1 H1 F2 H2 → DeskAt C p le lb (step m ed) (es ++ [ed.d]) F2 H2 → D.nx σ H2) : tDrop (tMeth C "do" (sp_do C Cb) [] E0 (tVar i) (tCons te tNil)) D σ H := by
  obtain ⟨dx, pm, pr, e1, _⟩ := (hI F H iw).ins
  refine ⟨_, hv, p, dx, _, rfl, e1, lk_do, h F H (Gw.refl sf) iw _ fun F1 H1 v1 g1 i1 s1 => ?_⟩
  refine ⟨F1, p, le, lb, m, es, v1, ed.d, rfl, g1.fh, hI F1 H1 i1, wf, s1, can_dok hc, fun z => (by rw [hc] at z; cases z), fun _ e he F2 H2 g2 da => ?_⟩
  have ee : step m e = step m ed := by
    cases e <;> cases ed <;> first | (cases he; rfl) | exact absurd he (by intro z; cases z)
  rw [ee] at da
  exact k F1 H1 F2 H2 g1 i1 g2 da
theorem q_do {C Cb p le lb : Addr} {m : Md} {es : List PyData} {i : Nat} {ed : Deed} (sf : Same F H) (iw : W.I F H) (hv : σ[i]? = some (some (.ref p))) (hI : ∀ F H, W.I F H → DeskAt C p le lb m es F H) (wf : Wf m) (hc : canDo m es.length ed.d = true) (h : Pr W te σ F H (.dt ed.d))
    (k : ∀ F1 H1 F2 H2, Gw W.M F H F1 H1 → W.I F1 H1 → Gw [p, le, lb] F1 H1 F2 H2 → DeskAt C p le lb (step m ed) (es ++ [ed.d]) F2 H2 → tz D σ H2) : tSeq (tDrop (tMeth C "do" (sp_do C Cb) [] E0 (tVar i) (tCons te tNil))) tz D σ H 
    := st_do sf iw hv hI wf hc h k
theorem box_keep {box : Addr} {M : List Addr} {F2 H2 : Hp} (g : Gw M F H F2 H2) (hn : box ∉ M) (b : BoxAt box F H) : BoxAt box F2 H2 := by
  obtain ⟨⟨dg, n, ds, h1, h2, h3⟩, h4⟩ := b
  exact ⟨⟨dg, n, ds, g.keep box _ hn h1, h2, g.ff _ _ h3⟩, g.fnone (nn h1) h4⟩
/-- xs[:n], xs[n:] -/
theorem pr_take {ds : List PyData} {n : Nat} (hn : n ≤ ds.length) (h : Pr W te σ F H (.dt (.list ds))) (hi : Pr W tb σ F H (.dt (.int (n : Int)))) : Pr W (tSl (rSlL K) te tNoPart (tPart tb)) σ F H (.dt (.list (ds.take n))) := fun F1 H1 g iw Q q =>
  h F1 H1 g iw _ fun F2 H2 v2 g2 i2 s2 => hi F2 H2 (g.trans g2) i2 _ fun F3 H3 v3 g3 i3 s3 => by
    cases s3
    cases s2 with
    | @lst p xs _ h1 h2 =>
      refine ⟨_, rfl, p, xs, rfl, SqL.of (g3.fh _ _ (g3.ff _ _ h1)), fun l hl => ?_⟩
      have e : cutV xs none (some (n : Int)) = xs.take n := by
        unfold cutV
        rw [HT.sIx_none, HT.sIx_nat, List.drop_zero, h2.len, Nat.min_eq_left hn, Nat.sub_zero]
      rw [e]
      have g4 : Gw [] F3 H3 (upd F3 l (.lst (xs.take n))) (upd H3 l (.lst (xs.take n))) := (Gw.refl g3.fh).frz hl
      exact q _ _ _ ((g2.trans g3).trans g4.pure) (W.st _ _ _ _ g4 i3) (.lst upd_same (((h2.take n).mono g3.ff).mono g4.ff))
theorem pr_drop {ds : List PyData} {n : Nat} (hn : n ≤ ds.length) (h : Pr W te σ F H (.dt (.list ds))) (hi : Pr W tb σ F H (.dt (.int (n : Int)))) : Pr W (tSl (rSlL K) te (tPart tb) tNoPart) σ F H (.dt (.list (ds.drop n))) := fun F1 H1 g iw Q q =>
  h F1 H1 g iw _ fun F2 H2 v2 g2 i2 s2 => hi F2 H2 (g.trans g2) i2 _ fun F3 H3 v3 g3 i3 s3 => by
    cases s3
    cases s2 with
    | @lst p xs _ h1 h2 =>
      refine ⟨_, rfl, p, xs, rfl, SqL.of (g3.fh _ _ (g3.ff _ _ h1)), fun l hl => ?_⟩
      have e : cutV xs (some (n : Int)) none = xs.drop n := by
        unfold cutV
        rw [HT.sIx_none, HT.sIx_nat, h2.len, Nat.min_eq_left hn]
        exact List.take_of_length_le (by rw [List.length_drop, h2.len]; exact Nat.le_refl _)
      rw [e]
      have g4 : Gw [] F3 H3 (upd F3 l (.lst (xs.drop n))) (upd H3 l (.lst (xs.drop n))) := (Gw.refl g3.fh).frz hl
      exact q _ _ _ ((g2.trans g3).trans g4.pure) (W.st _ _ _ _ g4 i3) (.lst upd_same (((h2.drop n).mono g3.ff).mono g4.ff))
end
section
variable {P : Program} {w : World} {K : PySem.W.Frag} {mg : Str → Option Value} {base : Heap} {C dl Cb fI CL Cn Cs : Addr}

/-! ### _law_wrong -/
-- slots: 0 _law_box, 1 _law_model_here, 2 _law_one, 3 _law_other, 4 _law_bad, 5 _law_name
abbrev s_l_wrong : Stmt := top 50
theorem sc_l_wrong : FnScope ["_law_box", "_law_model_here", "_law_one", "_law_other", "_law_bad", "_law_name"] ["_law_box", "_law_model_here"] (defScope s_l_wrong) := ⟨rfl, rfl, rfl, by decide +kernel, rfl, by decide +kernel, by decide +kernel⟩
def sp_wrong : Sp := fun vs H Q _ => ∃ (F : Hp) (box : Addr) (v : V) (m : Md), vs = [.ref box, v] ∧ Same F H ∧ BoxAt box F H ∧ Dt F v m.d ∧ Wf m ∧ ∀ F' H' x d, Gw [box] F H F' H' → BoxAt box F' H' → d ∈ wrongs m → Dt F' x d → Q x H'
theorem sg_wrong {W : Wd} {box : Addr} {m : Md} (b : BoxIn W box) (wf : Wf m) : Sg W sp_wrong [.raw (.ref box), .dt m.d] (.ex fun d => d ∈ wrongs m) := fun F H vs sf i ha Q E q => by
  obtain ⟨v, r, rfl, rfl, x, r', rfl, hx, rfl⟩ := ha
  exact ⟨F, box, x, m, rfl, sf, b.hI F H i, hx, wf, fun F' H' x d g hb hd hx => q F' H' _ (b.gw g) (b.hst _ _ _ _ g hb i) ⟨d, hx, hd⟩⟩
theorem ok_wrong (F : Df K mg "_law_wrong" s_l_wrong) (T : Txt K w mg C dl) (c__law_pick : Cl P w K mg base CX0 2 "_law_pick" sp_pick) : Cl P w K mg base CX0 3 "_law_wrong" sp_wrong := by
  refine cl_of F sc_l_wrong (fun vs H Q E h => ?_) (fun _ _ _ _ _ _ us hl => match us, hl with | [_, _], _ => rfl) fun f cdv A outer s H vs Q E hr h => ?_
  · obtain ⟨_, _, _, _, rfl, _⟩ := h
    rfl
  · obtain ⟨F, box, v, m, rfl, sf, hb, hv, wf, q⟩ := h
    refine ⟨_, (pss_cons (ps_asg (pe_slice sl_list (pe_op op_cat (pe_ix (ix_listK K) (pv 1) pe_int (fun _ _ => rfl)) (pe_lst (pa_cons pe_str (pa_cons pe_str pa_nil)))) po_none (po_some pe_int)) (pg_lst rfl (pgs_cons (pg_name (i := 2) sc_l_wrong.nd rfl (Or.inl rfl)) (pgs_cons (pg_name (i := 3) sc_l_wrong.nd rfl (Or.inl rfl)) pgs_nil)))) (pss_cons (ps_set (i := 4) sc_l_wrong.nd rfl (Or.inl rfl) (pe_lst (pa_cons (pe_tup pa_nil) (pa_cons pe_int (pa_cons pe_str (pa_cons (pe_tup (pa_cons pe_str pa_nil)) (pa_cons (pe_tup (pa_cons pe_str (pa_cons pe_str pa_nil))) (pa_cons (pe_tup (pa_cons pe_str (pa_cons (pv 2) (pa_cons pe_int pa_nil)))) (pa_cons (pe_tup (pa_cons pe_str (pa_cons pe_str pa_nil))) (pa_cons (pe_tup (pa_cons pe_str (pa_cons pe_str pa_nil))) (pa_cons (pe_tup (pa_cons pe_str (pa_cons pe_str pa_nil))) (pa_cons (pe_tup (pa_cons pe_str (pa_cons pe_int pa_nil))) (pa_cons (pe_tup (pa_cons pe_str (pa_cons (pv 2) (pa_cons (pv 3) pa_nil)))) (pa_cons (pe_tup (pa_cons pe_str (pa_cons (pv 2) (pa_cons pe_str (pa_cons pe_int pa_nil))))) (pa_cons (pe_tup (pa_cons pe_str (pa_cons pe_str (pa_cons (pv 3) (pa_cons pe_int pa_nil))))) (pa_cons (pe_tup (pa_cons pe_str (pa_cons (pv 2) (pa_cons (pv 2) (pa_cons pe_int pa_nil))))) (pa_cons (pe_tup (pa_cons pe_str (pa_cons (pv 2) (pa_cons (pv 3) (pa_cons pe_int pa_nil))))) (pa_cons (pe_tup (pa_cons pe_str (pa_cons (pv 2) (pa_cons (pv 3) (pa_cons (pe_un un_neg pe_int) pa_nil))))) (pa_cons (pe_tup (pa_cons pe_str (pa_cons (pv 2) (pa_cons (pv 3) (pa_cons pe_bl pa_nil))))) (pa_cons (pe_tup (pa_cons pe_str (pa_cons pe_int (pa_cons pe_int (pa_cons pe_int pa_nil))))) (pa_cons (pe_tup (pa_cons pe_str (pa_cons (pe_ix (ix_listK K) (pv 1) pe_int (fun _ _ => rfl)) pa_nil))) (pa_cons (pe_tup (pa_cons pe_str (pa_cons (pe_un un_neg pe_int) pa_nil))) (pa_cons (pe_tup (pa_cons pe_str (pa_cons pe_bl pa_nil))) (pa_cons (pe_tup (pa_cons pe_str (pa_cons pe_str pa_nil))) (pa_cons (pe_tup (pa_cons pe_str (pa_cons (pe_un un_neg pe_int) pa_nil))) (pa_cons (pe_tup (pa_cons pe_str (pa_cons pe_int pa_nil))) (pa_cons (pe_tup (pa_cons pe_str (pa_cons pe_bl pa_nil))) (pa_cons (pe_tup (pa_cons pe_str (pa_cons pe_int (pa_cons pe_int pa_nil)))) (pa_cons (pe_tup (pa_cons (pe_lst pa_nil) (pa_cons pe_int pa_nil))) pa_nil))))))))))))))))))))))))))))) (pss_cons (ps_if (pt_cmpR (op_neD hr.units) (pe_ix (ix_listK K) (pv 1) pe_int (fun _ _ => rfl)) (pe_lst pa_nil) (nomark _)) (pss_one (ps_set (i := 4) sc_l_wrong.nd rfl (Or.inl rfl) (pe_op op_cat (pv 4) (pe_lc (own := [("_law_name", 5)]) (g := gName 5) rfl sc_l_wrong.nd (pi_list (pe_ix (ix_listK K) (pv 1) pe_int (fun _ _ => rfl))) (blkOk_by (N := ["_law_box", "_law_model_here", "_law_one", "_law_other", "_law_bad", "_law_name"]) (sc := defScope s_l_wrong) (by decide +kernel)) (fun _ _ _ _ _ => pg_name (i := 5) sc_l_wrong.nd rfl (Or.inl rfl)) (fun _ _ _ _ _ => pts_nil) (fun _ _ _ _ _ => (pe_tup (pa_cons pe_str (pa_cons (pv 5) pa_nil)))))))) pss_nil) (pss_one (ps_ret (pe_cl c__law_pick hr (by decide) rfl (pa_cons (pv 0) (pa_cons (pv 4) pa_nil)))))))), ?_⟩
    have e0 : (start ["_law_box", "_law_model_here", "_law_one", "_law_other", "_law_bad", "_law_name"] [.ref box, v]) = [some (.ref box), some v, none, none, none, none] := rfl
    rw [e0]
    have few := wf.few
    obtain ⟨s0, s1, l2, hl⟩ : ∃ s0 s1 l2, m.marks ++ ([("ma" : Str), ("mb" : Str)] : List Str) = s0 :: s1 :: l2 := by
      cases h : m.marks with
      | nil => exact ⟨_, _, _, rfl⟩
      | cons x r =>
        cases r with
        | nil => exact ⟨_, _, _, rfl⟩
        | cons y r => exact ⟨_, _, _, rfl⟩
    have h0 : one m = s0 := by unfold one; rw [hl]; rfl
    have h1 : other m = s1 := by unfold other; rw [hl]; rfl
    -- one, other
    have hcat : Pr (boxW box) (tOp rCat (tOp (rIxL K) (tVar 1) (tC (.int 0))) (tLst (tCons (tC (.str "ma")) (tCons (tC (.str "mb")) tNil)))) [some (.ref box), some v, none, none, none, none] F H (.dt (.list ((m.marks ++ ([("ma" : Str), ("mb" : Str)] : List Str)).map .str))) :=
      pr_to (pr_catL (es := [.str "ma", .str "mb"]) (by rw [List.length_map]; simp only [List.length]; omega) (pr_m0 (i := 1) rfl hv) (pr_lst (prd_cons pr_str (prd_cons pr_str prd_nil)) (by simp only [List.length]; omega))) (by rw [List.map_append]; rfl)
    rw [hl] at hcat
    refine q_asg (pr_take (n := 2) (ds := (s0 :: s1 :: l2).map PyData.str) (K := K) (by simp) hcat pr_int F H (Gw.refl sf) hb _ fun F1 H1 v1 g1 i1 t1 => ?_)
    cases t1 with
    | @lst p xs _ p1 p2 =>
      have p2' : DtA F1 xs ([s0, s1].map PyData.str) := p2
      have ex := p2'.strs
      subst ex
      refine ⟨p, _, rfl, SqL.of (g1.fh _ _ p1), rfl, _, _, rfl, _, _, rfl, rfl, ?_⟩
      refine (?_ : tSeq _ _ _ [some (.ref box), some v, some (.str s0), some (.str s1), none, none] H1)
      have hv1 := hv.mono g1.ff
      have S : ∀ {s : Str} {F H : Hp} {σ : L2.St}, Pr (boxW box) (tC (.str s)) σ F H (.dt (.str s)) := pr_str
      have I : ∀ {s : Int} {F H : Hp} {σ : L2.St}, Pr (boxW box) (tC (.int s)) σ F H (.dt (.int s)) := pr_int
      have N : ∀ {s : Int} {F H : Hp} {σ : L2.St}, Pr (boxW box) (tUn (rU fun i => .int (-i)) (tC (.int s))) σ F H (.dt (.int (-s))) := pr_neg pr_int
      have A : ∀ {F H : Hp} {o4 o5 : Option V}, Pr (boxW box) (tVar 2) [some (.ref box), some v, some (.str s0), some (.str s1), o4, o5] F H (.dt (.str s0)) := pr_dt rfl (.str _)
      have B : ∀ {F H : Hp} {o4 o5 : Option V}, Pr (boxW box) (tVar 3) [some (.ref box), some v, some (.str s0), some (.str s1), o4, o5] F H (.dt (.str s1)) := pr_dt rfl (.str _)
      have t0 : ∀ {F H : Hp} {σ : L2.St}, Pr (boxW box) (tTup tNil) σ F H (.dt (.tuple [])) := pr_tup prd_nil (Nat.zero_le _)
      have ta : ∀ {a : TE} {d : PyData} {F H : Hp} {σ : L2.St}, Pr (boxW box) a σ F H (.dt d) → Pr (boxW box) (tTup (tCons a tNil)) σ F H (.dt (.tuple [d])) := fun h => pr_tup (prd_cons h prd_nil) (by simp only [List.length]; omega)
      have tb : ∀ {a b : TE} {d e : PyData} {F H : Hp} {σ : L2.St}, Pr (boxW box) a σ F H (.dt d) → Pr (boxW box) b σ F H (.dt e) → Pr (boxW box) (tTup (tCons a (tCons b tNil))) σ F H (.dt (.tuple [d, e])) := fun h h2 => pr_tup (prd_cons h (prd_cons h2 prd_nil)) (by simp only [List.length]; omega)
      have tc : ∀ {a b c : TE} {d e f : PyData} {F H : Hp} {σ : L2.St}, Pr (boxW box) a σ F H (.dt d) → Pr (boxW box) b σ F H (.dt e) → Pr (boxW box) c σ F H (.dt f) → Pr (boxW box) (tTup (tCons a (tCons b (tCons c tNil)))) σ F H (.dt (.tuple [d, e, f])) := fun h h2 h3 => pr_tup (prd_cons h (prd_cons h2 (prd_cons h3 prd_nil))) (by simp only [List.length]; omega)
      have td : ∀ {a b c g : TE} {d e f k : PyData} {F H : Hp} {σ : L2.St}, Pr (boxW box) a σ F H (.dt d) → Pr (boxW box) b σ F H (.dt e) → Pr (boxW box) c σ F H (.dt f) → Pr (boxW box) g σ F H (.dt k) → Pr (boxW box) (tTup (tCons a (tCons b (tCons c (tCons g tNil))))) σ F H (.dt (.tuple [d, e, f, k])) := fun h h2 h3 h4 => pr_tup (prd_cons h (prd_cons h2 (prd_cons h3 (prd_cons h4 prd_nil)))) (by simp only [List.length]; omega)
      refine q_set (W := boxW box) (F := F1) (a := .dt (.list (bads m))) g1.fh i1 ?_ fun F2 H2 v2 g2 i2 s2 => ?_
      · unfold bads
        rw [h0, h1]
        exact pr_lst (prd_cons t0 (prd_cons I (prd_cons S (prd_cons (ta S) (prd_cons (tb S S) (prd_cons (tc S A I) (prd_cons (tb S S) (prd_cons (tb S S) (prd_cons (tb S S) (prd_cons (tb S I) (prd_cons (tc S A B) (prd_cons (td S A S I) (prd_cons (td S S B I) (prd_cons (td S A A I) (prd_cons (td S A B I) (prd_cons (td S A B N) (prd_cons (td S A B pr_bl) (prd_cons (td S I I I) (prd_cons (tb S (pr_m2 (i := 1) rfl hv1)) (prd_cons (tb S N) (prd_cons (tb S pr_bl) (prd_cons (tb S S) (prd_cons (tb S N) (prd_cons (tb S I) (prd_cons (tb S pr_bl) (prd_cons (tc S I I) (prd_cons (tb (pr_lst prd_nil (Nat.zero_le _)) I) prd_nil))))))))))))))))))))))))))) (by simp only [List.length]; omega)
      have hv2 := hv1.mono g2.ff
      have hmk : Sh 2 (.list (m.marks.map .str)) := sh_lst fun d hd => by
        obtain ⟨s, hs, rfl⟩ := List.mem_map.mp hd
        exact sh_name (wf.short s hs)
      have fin : ∀ {F3 H3 : Hp} {o5 : Option V} {v4 : V} {ds : List PyData} {D : Ends}, D.rt = Q → Gw [box] F H F3 H3 → BoxAt box F3 H3 → Dt F3 v4 (.list ds) → ds ≠ [] → (∀ d ∈ ds, d ∈ wrongs m) → tRet (tCall sp_pick [] E0 (tCons (tVar 0) (tCons (tVar 4) tNil))) D [some (.ref box), some v, some (.str s0), some (.str s1), some v4, o5] H3 := fun {F3 H3 o5 v4 ds D} hD g b hv4 hne hw => by
        refine s_ret (W := boxW box) (F := F3) g.fh b (pr_call (sg_pick boxIn hne) (pra_cons (pr_var rfl) (pra_cons (pr_dt (i := 4) rfl hv4) pra_nil))) ?_
        intro F4 H4 y g4 i4 hy
        obtain ⟨d, hd, hm⟩ := hy
        rw [hD]
        exact q F4 H4 y d (g.trans g4) i4 (hw d hm) hd
      refine q_if (W := boxW box) (F := F2) (b := !decide (m.marks.map PyData.str = [])) g2.fh i2 (prt_to (prt_test (pr_neD (hmk.ok (by decide)) (sh_lst (n := 1) (ds := []) (fun _ h => nomatch h) |>.ok (by decide)) (pr_m0 (i := 1) rfl hv2) (pr_lst prd_nil (Nat.zero_le _)))) (by rw [eqv_list_nil])) (fun _ F3 H3 g3 i3 => ?_) (fun _ F3 H3 g3 i3 => ?_)
      · have hv3 := hv2.mono g3.ff
        have hcl := pr_lcL (W := boxW box) (K := K) (σ := [some (.ref box), some v, some (.str s0), some (.str s1), some v2, none]) (F := F3) (H := H3) (j := 5) (vs := [5]) (tt := tYes) (te' := tTup (tCons (tC (.str "mark")) (tCons (tVar 5) tNil)))
          (fun _ => true) (fun d => .tuple [.str "mark", d]) (pr_m0 (K := K) (i := 1) rfl hv3) (by rw [List.length_map]; omega) (fun _ => rfl)
          (fun d hd F1 H1 w g _ hw => prt_yes)
          (fun d hd F1 H1 w g _ hw _ => tb S (pr_dt rfl hw))
        refine s_set (W := boxW box) (F := F3) (a := .dt (.list (wrongs m))) g3.fh i3 (pr_to (pr_catL (ds := bads m) (by rw [List.length_map, List.filter_eq_self.mpr (fun _ _ => rfl), List.length_map]; unfold bads; simp only [List.length]; omega) (pr_dt (i := 4) rfl (Dt.mono g3.ff s2)) hcl) ?_) fun F4 H4 v4 g4 i4 s4 => ?_
        · unfold wrongs
          rw [List.filter_eq_self.mpr (fun _ _ => rfl), List.map_map]
          rfl
        · exact fin rfl (((g1.trans g2).trans g3).trans g4) i4 s4 (by unfold wrongs bads; simp) fun d hd => hd
      · exact fin rfl ((g1.trans g2).trans g3) i3 (Dt.mono g3.ff s2) (by unfold bads; simp) fun d hd => List.mem_append_left _ hd
end
end K39
end

section
set_option Elab.async false
set_option linter.all false
set_option maxRecDepth 100000
set_option maxHeartbeats 4000000
namespace K39
open PySem PySem.Spec PyProof.Rows L2

theorem gw_new2 {M N : List Addr} {F H F1 H1 F2 H2 : Hp} (g : Gw M F H F1 H1) (g2 : Gw N F1 H1 F2 H2) (h : ∀ x ∈ N, H x = none) : Gw M F H F2 H2 :=
  ⟨g.ff.trans g2.ff, fun b hb => (g2.new b (g.there b hb)).trans (g.new b hb), g2.fh, fun b o hm e => g2.keep b o (fun z => by rw [h b z] at e; cases e) (g.keep b o hm e), fun b hb => g2.there b (g.there b hb)⟩
section
variable {W : Wd} {σ : L2.St} {F H F1 H1 : Hp} {te ta tb tc to : TE} {tl tr : TA} {tt t u : TT} {a b c : Ar} {as : List Ar} {v w : V} {d e : PyData} {r : R2} {K : PySem.W.Frag} {D : Ends} {tu tw tz : TS}
theorem s_retL (h : tl σ H fun xs H1 => xs.length ≤ sizeLine ∧ ∀ p, H1 p = none → D.rt (.ref p) (upd H1 p (.lst xs))) : tRet (tLst tl) D σ H := h
/-- for k in range(n): desk.do(f(k)) -/
theorem loop_do {C Cb p le lb box : Addr} {m : Md} {es : List PyData} {f : Nat → Deed} {n : Nat} {kd : V} {o3 : Option V} (g : Gw [box] F H F1 H1) (hb : BoxAt box F1 H1) (da : DeskAt C p le lb m es F1 H1) (hnew : ∀ x ∈ [p, le, lb], H x = none) (hbox : box ∉ [p, le, lb]) (wf : Wf m)
    (hn : Pr (andW (boxW box) (deskW C p le lb m es)) te [some (.ref box), some (.ref p), some kd, o3] F1 H1 (.dt (.int (n : Int)))) (hn2 : n ≤ 100000)
    (hc : ∀ k, k < n → canDo (seqM m f k) (es.length + k) (f k).d = true)
    (hd : ∀ k, k < n → ∀ F2 H2, Pr (andW (boxW box) (deskW C p le lb (seqM m f k) (es ++ seqD f k))) ta [some (.ref box), some (.ref p), some kd, some (.int (k : Int))] F2 H2 (.dt (f k).d))
    (k : ∀ F2 H2 o3, Gw [box] F H F2 H2 → BoxAt box F2 H2 → DeskAt C p le lb (seqM m f n) (es ++ seqD f n) F2 H2 → tz D [some (.ref box), some (.ref p), some kd, o3] H2) :
    tSeq (tFor (iRng1 (tCons te tNil)) (gName 3) (tDrop (tMeth C "do" (sp_do C Cb) [] E0 (tVar 1) (tCons ta tNil)))) tz D [some (.ref box), some (.ref p), some kd, o3] H1 := by
  refine q_forR (W := andW (boxW box) (deskW C p le lb m es)) (F := F1) (n := n) g.fh ⟨hb, da⟩ hn hn2 (fun i σ' H' => ∃ (F' : Hp) (o3 : Option V), σ' = [some (.ref box), some (.ref p), some kd, o3] ∧ Gw [box] F H F' H' ∧ BoxAt box F' H' ∧ DeskAt C p le lb (seqM m f i) (es ++ seqD f i) F' H') (fun F2 H2 g2 i2 => ?_) (fun i σ' H' hi h => ?_) (fun σ' H' h => ?_)
  · have e0 : es ++ seqD f 0 = es := by
      show es ++ [] = es
      rw [List.append_nil]
    have g2' : Gw [box] F1 H1 F2 H2 := g2
    exact ⟨F2, o3, rfl, g.trans g2', i2.1, by rw [e0]; exact i2.2⟩
  · obtain ⟨F', o3, rfl, g', hb', da'⟩ := h
    refine st_do (W := andW (boxW box) (deskW C p le lb (seqM m f i) (es ++ seqD f i))) (F := F') (m := seqM m f i) (es := es ++ seqD f i) (ed := f i) g'.fh ⟨hb', da'⟩ rfl (fun _ _ z => z.2) (seq_wf wf hc i (by omega)) (by rw [List.length_append, seqD_len]; exact hc i hi) (hd i hi F' H') fun F2 H2 F3 H3 g2 i2 g3 da3 => ?_
    have g2' : Gw [box] F' H' F2 H2 := g2
    refine ⟨F3, _, rfl, gw_new2 (g'.trans g2') g3 hnew, box_keep g3 hbox i2.1, ?_⟩
    rw [seqM_succ, seqD_succ, ← List.append_assoc]
    exact da3
  · obtain ⟨F', o3, rfl, g', hb', da'⟩ := h
    exact k F' H' o3 g' hb' da'
end
section
variable {P : Program} {w : World} {K : PySem.W.Frag} {mg : Str → Option Value} {base : Heap} {C dl Cb fI CL Cn Cs : Addr}

/-! ### _law_full -/
-- slots: 0 _law_box, 1 _law_desk, 2 _law_kind, 3 _law_k
abbrev s_l_full : Stmt := top 51
theorem sc_l_full : FnScope ["_law_box", "_law_desk", "_law_kind", "_law_k"] ["_law_box"] (defScope s_l_full) := ⟨rfl, rfl, rfl, by decide +kernel, rfl, by decide +kernel, by decide +kernel⟩
def sp_full (C : Addr) : Sp := fun vs H Q _ => ∃ (F : Hp) (box : Addr), vs = [.ref box] ∧ Same F H ∧ BoxAt box F H ∧ ∀ (F' H' : Hp) (r p le lb : Addr) (m : Md) (es : List PyData) (vb vw : V) (b wd : PyData), Gw [box] F H F' H' → H p = none → H le = none → H lb = none →
  DeskAt C p le lb m es F' H' → Wf m → H' r = some (.lst [.ref p, vb, vw]) → Dt F' vb b → DOk b → canDo m es.length b = false → Dt F' vw wd → (wd = .tuple [] ∨ ∃ e : Deed, wd = e.d ∧ canDo m es.length e.d = true) → Q (.ref r) H'
theorem ok_full (F : Df K mg "_law_full" s_l_full) (T : Txt K w mg C dl) (c_Desk : Mkr P w K mg base C 1) (c_do : Ml P w K mg base C (L2.CX P w) 4 "do" (sp_do C Cb)) (c__law_draw : Cl P w K mg base CX0 1 "_law_draw" sp_draw) (c__law_word : Cl P w K mg base CX0 1 "_law_word" sp_word) : Cl P w K mg base CX0 5 "_law_full" (sp_full C) := by
  refine cl_of F sc_l_full (fun vs H Q E h => ?_) (fun _ _ _ _ _ _ us hl => match us, hl with | [_], _ => rfl) fun f cdv A outer s H vs Q E hr h => ?_
  · obtain ⟨_, _, rfl, _⟩ := h
    rfl
  · obtain ⟨F, box, rfl, sf, hb, q⟩ := h
    refine ⟨_, (pss_cons (ps_set (i := 1) sc_l_full.nd rfl (Or.inl rfl) (pe_mk0 c_Desk hr (by decide) rfl)) (pss_cons (ps_set (i := 2) sc_l_full.nd rfl (Or.inl rfl) (pe_cl c__law_draw hr (by decide) rfl (pa_cons (pv 0) (pa_cons pe_int pa_nil)))) (pss_cons (ps_for PassesOwn.never rfl (pi_range1 (by rfl) T.range (pa_cons (pe_ix (ix_listK K) (pe_lst (pa_cons pe_int (pa_cons pe_int (pa_cons pe_int pa_nil)))) (pv 2) (fun _ _ => rfl)) pa_nil)) (pg_name (i := 3) sc_l_full.nd rfl (Or.inl rfl)) (pss_one (ps_expr (pe_mlE c_do hr (by decide) passL (pv 1) (pa_cons (pe_tup (pa_cons pe_str (pa_cons (pe_cl c__law_word hr (by decide) rfl (pa_cons (pv 3) pa_nil)) pa_nil))) pa_nil))))) (pss_cons (ps_if (pt_cmpR op_eq (pv 2) pe_int (nomark _)) (pss_one (ps_ret (pe_lst (pa_cons (pv 1) (pa_cons (pe_tup (pa_cons pe_str (pa_cons pe_str pa_nil))) (pa_cons (pe_tup (pa_cons pe_str (pa_cons pe_str (pa_cons pe_str (pa_cons pe_int pa_nil))))) pa_nil)))))) pss_nil) (pss_cons (ps_if (pt_cmpR op_eq (pv 2) pe_int (nomark _)) (pss_cons (ps_for PassesOwn.never rfl (pi_range1 (by rfl) T.range (pa_cons pe_int pa_nil)) (pg_name (i := 3) sc_l_full.nd rfl (Or.inl rfl)) (pss_one (ps_expr (pe_mlE c_do hr (by decide) passL (pv 1) (pa_cons (pe_tup (pa_cons pe_str (pa_cons pe_str (pa_cons pe_str (pa_cons (pv 3) pa_nil))))) pa_nil))))) (pss_one (ps_ret (pe_lst (pa_cons (pv 1) (pa_cons (pe_tup (pa_cons pe_str (pa_cons pe_str (pa_cons pe_str (pa_cons pe_int pa_nil))))) (pa_cons (pe_tup (pa_cons pe_str (pa_cons pe_int pa_nil))) pa_nil))))))) pss_nil) (pss_cons (ps_for PassesOwn.never rfl (pi_range1 (by rfl) T.range (pa_cons pe_int pa_nil)) (pg_name (i := 3) sc_l_full.nd rfl (Or.inl rfl)) (pss_one (ps_expr (pe_mlE c_do hr (by decide) passL (pv 1) (pa_cons (pe_tup (pa_cons pe_str (pa_cons (pe_op op_mod (pe_callTy call_int1 (by rfl) T.int_ boot_int (pa_cons (pv 3) pa_nil)) pe_int) pa_nil))) pa_nil))))) (pss_one (ps_ret (pe_lst (pa_cons (pv 1) (pa_cons (pe_tup (pa_cons pe_str (pa_cons pe_int pa_nil))) (pa_cons (pe_tup pa_nil) pa_nil)))))))))))), ?_⟩
    have e0 : (start ["_law_box", "_law_desk", "_law_kind", "_law_k"] [.ref box]) = [some (.ref box), none, none, none] := rfl
    rw [e0]
    have hbn : H box ≠ none := by
      obtain ⟨_, _, _, h, _⟩ := hb.at_
      exact nn h
    refine q_asg (mk_desk sf fun F1 H1 p le lb g1 hp hle hlb da => ?_)
    refine (?_ : tSeq _ _ _ [some (.ref box), some (.ref p), none, none] H1)
    have hnew : ∀ x ∈ [p, le, lb], H x = none := fun x hx => by
      simp only [List.mem_cons, List.not_mem_nil, or_false] at hx
      rcases hx with rfl | rfl | rfl <;> assumption
    have hbox : box ∉ [p, le, lb] := fun z => hbn (hnew box z)
    have hown : ∀ (m : Md) (es : List PyData), ∀ x ∈ (deskW C p le lb m es).own, x ≠ box := fun m es x hx z => hbox (z ▸ hx)
    have hb1 : BoxAt box F1 H1 := box_keep g1 (fun z => nomatch z) hb
    -- kind
    refine q_set (W := andW (boxW box) (deskW C p le lb md0 [])) (F := F1) g1.fh ⟨hb1, da⟩ (pr_call (sg_draw (boxIn_and (hown _ _)) (many := 3) (by decide)) (pra_cons (pr_var rfl) (pra_cons pr_int pra_nil))) fun F2 H2 v2 g2 i2 s2 => ?_
    obtain ⟨d2, hd2, kd, rfl, hkd⟩ := s2
    cases hd2
    refine (?_ : tSeq _ _ _ [some (.ref box), some (.ref p), some (.int (kd : Int)), none] H2)
    have g2' : Gw [box] F1 H1 F2 H2 := g2
    have gA : Gw [box] F H F2 H2 := g1.pure.trans g2'
    -- marks
    have hN : ∃ N : Nat, N ≤ 16 ∧ ([.int 16, .int 2, .int 2] : List PyData)[kd]? = some (.int (N : Int)) ∧ (kd = 0 → N = 16) ∧ (kd ≠ 0 → N = 2) := by
      have h3 : kd = 0 ∨ kd = 1 ∨ kd = 2 := by omega
      rcases h3 with rfl | rfl | rfl
      · exact ⟨16, by decide, rfl, fun _ => rfl, fun h => absurd rfl h⟩
      · exact ⟨2, by decide, rfl, (fun h => by cases h), fun _ => rfl⟩
      · exact ⟨2, by decide, rfl, (fun h => by cases h), fun _ => rfl⟩
    obtain ⟨N, hN16, hNe, hN0, hN1⟩ := hN
    have hlist : Pr (andW (boxW box) (deskW C p le lb md0 [])) (tLst (tCons (tC (.int 16)) (tCons (tC (.int 2)) (tCons (tC (.int 2)) tNil)))) [some (.ref box), some (.ref p), some (.int (kd : Int)), none] F2 H2 (.dt (.list [.int 16, .int 2, .int 2])) :=
      pr_lst (prd_cons pr_int (prd_cons pr_int (prd_cons pr_int prd_nil))) (by decide)
    refine loop_do (f := fM) (n := N) (te := tOp (rIxL K) (tLst (tCons (tC (.int 16)) (tCons (tC (.int 2)) (tCons (tC (.int 2)) tNil)))) (tVar 2)) gA i2.1 i2.2 hnew hbox wf0 (pr_ixL (n := kd) rfl hNe hlist (pr_dt (i := 2) rfl (.int _))) (by omega) (fun k hk => full_marks k (by omega))
      (fun k hk F3 H3 => pr_tup (prd_cons pr_str (prd_cons (pr_call sg_word (pra_cons (pr_dt (i := 3) rfl (.int _)) pra_nil)) prd_nil)) (by simp only [List.length]; omega)) fun F3 H3 o3 g3 b3 da3 => ?_
    -- the end
    have fin : ∀ {F4 H4 : Hp} {o : Option V} {m : Md} {es : List PyData} {tb tc : TE} {b wd : PyData} {D : Ends}, D.rt = Q → Gw [box] F H F4 H4 → BoxAt box F4 H4 → DeskAt C p le lb m es F4 H4 → Wf m →
        Pr (andW (boxW box) (deskW C p le lb m es)) tb [some (.ref box), some (.ref p), some (.int (kd : Int)), o] F4 H4 (.dt b) → Pr (andW (boxW box) (deskW C p le lb m es)) tc [some (.ref box), some (.ref p), some (.int (kd : Int)), o] F4 H4 (.dt wd) → DOk b → canDo m es.length b = false → (wd = .tuple [] ∨ ∃ e : Deed, wd = e.d ∧ canDo m es.length e.d = true) →
        tRet (tLst (tCons (tVar 1) (tCons tb (tCons tc tNil)))) D [some (.ref box), some (.ref p), some (.int (kd : Int)), o] H4 := fun {F4 H4 o m es tb tc b wd D} hD g hb da wf h1 h2 hd hc hw => by
      refine s_retL (pra_cons (pr_var (i := 1) rfl) (pra_cons h1 (pra_cons h2 pra_nil)) F4 H4 (Gw.refl g.fh) ⟨hb, da⟩ _ fun F5 H5 vs g5 i5 s5 => ?_)
      obtain ⟨v1, _, rfl, e1, vb, _, rfl, hvb, vw, _, rfl, hvw, rfl⟩ := s5
      have e1' : v1 = .ref p := e1
      subst e1'
      have g5' : Gw [box] F4 H4 F5 H5 := g5
      refine ⟨by show 3 ≤ sizeLine; decide, fun r hr => ?_⟩
      have g6 : Gw [box] F H F5 (upd H5 r (.lst [.ref p, vb, vw])) := (g.trans g5').fresh hr
      have g7 : Gw [] F5 H5 F5 (upd H5 r (.lst [.ref p, vb, vw])) := (Gw.refl g5.fh).fresh hr
      have da7 : DeskAt C p le lb m es F5 (upd H5 r (.lst [.ref p, vb, vw])) := (deskW C p le lb m es).st _ _ _ _ g7 i5.2
      rw [hD]
      exact q F5 _ r p le lb m es vb vw b wd g6 hp hle hlb da7 wf upd_same hvb hd hc hvw hw
    have S : ∀ {s : Str} {F H : Hp} {σ : L2.St} {W : Wd}, Pr W (tC (.str s)) σ F H (.dt (.str s)) := pr_str
    have I : ∀ {s : Int} {F H : Hp} {σ : L2.St} {W : Wd}, Pr W (tC (.int s)) σ F H (.dt (.int s)) := pr_int
    have tb : ∀ {a b : TE} {d e : PyData} {F H : Hp} {σ : L2.St} {W : Wd}, Pr W a σ F H (.dt d) → Pr W b σ F H (.dt e) → Pr W (tTup (tCons a (tCons b tNil))) σ F H (.dt (.tuple [d, e])) := fun h h2 => pr_tup (prd_cons h (prd_cons h2 prd_nil)) (by simp only [List.length]; omega)
    have td : ∀ {a b c g : TE} {d e f k : PyData} {F H : Hp} {σ : L2.St} {W : Wd}, Pr W a σ F H (.dt d) → Pr W b σ F H (.dt e) → Pr W c σ F H (.dt f) → Pr W g σ F H (.dt k) → Pr W (tTup (tCons a (tCons b (tCons c (tCons g tNil))))) σ F H (.dt (.tuple [d, e, f, k])) := fun h h2 h3 h4 => pr_tup (prd_cons h (prd_cons h2 (prd_cons h3 (prd_cons h4 prd_nil)))) (by simp only [List.length]; omega)
    refine q_when (W := andW (boxW box) (deskW C p le lb (seqM md0 fM N) ([] ++ seqD fM N))) (F := F3) (b := decide ((kd : Int) = 0)) g3.fh ⟨b3, da3⟩ (prt_test (pr_eqI (pr_dt (i := 2) rfl (.int _)) pr_int)) (fun hk F4 H4 g4 i4 => ?_) (fun hk F4 H4 g4 i4 => ?_)
    · have hk0 : kd = 0 := by have := of_decide_eq_true hk; omega
      have hN := hN0 hk0
      subst hN
      have g4' : Gw [box] F3 H3 F4 H4 := g4
      exact fin rfl (g3.trans g4') i4.1 i4.2 (seq_wf wf0 full_marks 16 (by decide)) (tb S S) (td S S S I) (dok_mark (short_lit (by decide +kernel))) (by rw [List.length_append, seqD_len]; exact full_marks_no) (.inr ⟨.read "ma" "mb" 1, rfl, by rw [List.length_append, seqD_len]; exact full_marks_yes⟩)
    · have hk0 : kd ≠ 0 := by have := of_decide_eq_false hk; omega
      have hN := hN1 hk0
      subst hN
      have g4' : Gw [box] F3 H3 F4 H4 := g4
      have gB := g3.trans g4'
      have i4d := i4.2
      have el : ([] ++ seqD fM 2 : List PyData).length = 2 := by rw [List.length_append, seqD_len]; rfl
      have i4' : DeskAt C p le lb md2 ([] ++ seqD fM 2) F4 H4 := md2_is ▸ i4d
      have wf2 : Wf md2 := md2_is ▸ seq_wf wf0 (c := 0) (n := 2) (fun k hk => full_marks k (by omega)) 2 (Nat.le_refl _)
      generalize hES : ([] ++ seqD fM 2 : List PyData) = ES at el i4'
      refine q_when (W := andW (boxW box) (deskW C p le lb md2 ES)) (F := F4) (b := decide ((kd : Int) = 1)) g4.fh ⟨i4.1, i4'⟩ (prt_test (pr_eqI (pr_dt (i := 2) rfl (.int _)) pr_int)) (fun hk F5 H5 g5 i5 => ?_) (fun hk F5 H5 g5 i5 => ?_)
      · have g5' : Gw [box] F4 H4 F5 H5 := g5
        refine loop_do (f := fR) (n := 80) (te := tC (.int 80)) (gB.trans g5') i5.1 i5.2 hnew hbox wf2 pr_int (by decide) (fun k hk => by rw [seqR, el]; exact (can_R k (2 + k) k (by omega) (by omega)).trans (decide_eq_true hk)) (fun k hk F3 H3 => td S S S (pr_dt (i := 3) rfl (.int _))) fun F6 H6 o3 g6 b6 da6 => ?_
        rw [seqR] at da6
        have wfR : Wf (mdR 80) := seqR 80 ▸ seq_wf wf2 (c := 2) (n := 80) (f := fR) (fun k hk => by rw [seqR]; exact (can_R k (2 + k) k (by omega) (by omega)).trans (decide_eq_true hk)) 80 (Nat.le_refl _)
        have el2 : (ES ++ seqD fR 80).length = 82 := by rw [List.length_append, seqD_len, el]
        exact fin rfl g6 b6 da6 wfR (td S S S I) (tb S I) (dok_read (short_lit (by decide +kernel)) (short_lit (by decide +kernel)) (short_int _)) (by rw [el2]; exact can_R 80 82 1 (by decide) (by decide)) (.inr ⟨.drop 79, rfl, by rw [el2]; exact can_R79⟩)
      · have g5' : Gw [box] F4 H4 F5 H5 := g5
        refine loop_do (f := fB) (n := 998) (te := tC (.int 998)) (gB.trans g5') i5.1 i5.2 hnew hbox wf2 pr_int (by decide) (fun k hk => by rw [can_B, el]; exact decide_eq_true (by omega)) (fun k hk F3 H3 => tb S (pr_to (pr_mod (by decide) (pr_toInt (pr_dt (i := 3) rfl (.int _))) (pr_int (n := 21))) (by
          show PyData.int ((k : Int) % 21) = PyData.int ((k % 21 : Nat) : Int)
          congr 1))) fun F6 H6 o3 g6 b6 da6 => ?_
        have wfB : Wf (seqM md2 fB 998) := seq_wf wf2 (c := 2) (n := 998) (f := fB) (fun k hk => by rw [can_B]; exact decide_eq_true (by omega)) 998 (Nat.le_refl _)
        have el2 : (ES ++ seqD fB 998).length = 1000 := by rw [List.length_append, seqD_len, el]
        refine fin rfl g6 b6 da6 wfB (tb S I) (pr_tup prd_nil (Nat.zero_le _)) (dok_bound (short_int _)) ?_ (.inl rfl)
        rw [el2]
        show canDo _ 1000 (Deed.bound 1).d = false
        rw [canDo_bound]
        rfl
end
end K39
end

section
set_option Elab.async false
set_option linter.all false
set_option maxRecDepth 100000
set_option maxHeartbeats 8000000
namespace K39
open PySem PySem.Spec PyProof.Rows L2

section
variable {W : Wd} {σ : L2.St} {F H F1 H1 : Hp} {te ta tb tc to : TE} {tl tr : TA} {tt t u : TT} {a b c : Ar} {as : List Ar} {v w : V} {d e : PyData} {r : R2} {K : PySem.W.Frag} {D : Ends} {tu tw tz : TS}
/-- a list of two -/
theorem lst2 {d e : PyData} (h : Dt F v (.list [d, e])) : ∃ a x y, v = .ref a ∧ F a = some (.lst [x, y]) ∧ Dt F x d ∧ Dt F y e := by
  cases h with
  | @lst p xs _ h1 h2 =>
    cases h2 with
    | cons q0 h2 => cases h2 with
      | cons q1 h2 =>
        cases h2
        exact ⟨p, _, _, rfl, h1, q0, q1⟩
/-- a test of which nothing is known -/
theorem q_call {sp : Sp} {E : XK} {i : Nat} (h : tl σ H fun vs H1 => sp (vs ++ []) H1 (fun x H2 => tz D (σ.set i (some x)) H2) E) : tSeq (tAsg (tCall sp [] E tl) (gName i)) tz D σ H := h
theorem s_or (sf : Same F H) (iw : W.I F H) (ha : Pr W ta σ F H (.dt (.bool false))) (k : ∀ F1 H1, Gw W.M F H F1 H1 → W.I F1 H1 → tb σ H1 D.rt) : tRet (tOrV ta tb) D σ H :=
  ha F H (Gw.refl sf) iw _ fun F1 H1 x g1 i1 s1 => by
    cases s1
    exact ⟨false, rfl, k F1 H1 g1 i1⟩
theorem q_any {n : Int} (sf : Same F H) (iw : W.I F H) (ha : Pr W ta σ F H (.ex fun d => ∃ k : Int, d = .int k)) (hb : Pr W tb σ F H (.dt (.int n))) (k1 : ∀ F1 H1, Gw W.M F H F1 H1 → W.I F1 H1 → tu { D with nx := tz D } σ H1) (k2 : ∀ F1 H1, Gw W.M F H F1 H1 → W.I F1 H1 → tz D σ H1) :
    tSeq (tIfS (tTest (tOp rEq ta tb)) tu tNext) tz D σ H :=
  ha F H (Gw.refl sf) iw _ fun F1 H1 x g1 i1 s1 => hb F1 H1 g1 i1 _ fun F2 H2 y g2 i2 s2 => by
    obtain ⟨d, hd, k, rfl⟩ := s1
    have hd2 := hd.mono g2.ff
    cases hd2
    cases s2
    refine ⟨rfl, _, rfl, ?_⟩
    rw [dec_int]
    show (if decide (k = n) = true then tu { D with nx := tz D } σ H2 else tz D σ H2)
    by_cases h : k = n
    · rw [if_pos (decide_eq_true h)]
      exact k1 F2 H2 (g1.trans g2) i2
    · rw [if_neg (by simpa using h)]
      exact k2 F2 H2 (g1.trans g2) i2
end
def two : List Deed := [.mark "q", .mark "abcdefgh"]
theorem q_new : ∀ n, n ≤ 8 → ¬ ("q" : Str) ∈ gnames n ∧ ¬ ("abcdefgh" : Str) ∈ gnames n := by decide +kernel
theorem q_names : isNameS "q" = true ∧ isNameS "abcdefgh" = true ∧ ¬ (("abcdefgh" : Str) = "q") := by decide +kernel
theorem two_ok {m : Md} {n c : Nat} (g : Gen m n) (hc : c < 1000) : ∀ i e, two[i]? = some e → canDo (run m (two.take i)) c e.d = true := fun i e he => by
  obtain ⟨n1, n2, n3⟩ := q_names
  obtain ⟨q1, q2⟩ := q_new _ g.few
  rw [← g.names] at q1 q2
  have few := g.few
  match i, he with
  | 0, he =>
    have e1 : e = .mark "q" := by simpa [two] using he.symm
    subst e1
    show canDo m c (Deed.mark "q").d = true
    rw [canDo_mark]
    simp only [canMark, Bool.and_eq_true, Bool.not_eq_true', decide_eq_true_eq, decide_eq_false_iff_not]
    exact ⟨hc, ⟨n1, q1⟩, by omega⟩
  | 1, he =>
    have e1 : e = .mark "abcdefgh" := by simpa [two] using he.symm
    subst e1
    show canDo (step m (.mark "q")) c (Deed.mark "abcdefgh").d = true
    rw [canDo_mark]
    simp only [canMark, Bool.and_eq_true, Bool.not_eq_true', decide_eq_true_eq, decide_eq_false_iff_not]
    refine ⟨hc, ⟨n2, fun z => ?_⟩, ?_⟩
    · have z' : ("abcdefgh" : Str) ∈ m.marks ++ [("q" : Str)] := z
      rcases List.mem_append.mp z' with z' | z'
      · exact q2 z'
      · exact n3 (by simpa using z')
    · show (m.marks ++ [("q" : Str)]).length < 16
      rw [List.length_append]
      simp only [List.length_singleton]
      omega
  | i + 2, he => simp [two] at he
theorem two_wf {m : Md} {n : Nat} (g : Gen m n) : ∀ i, i ≤ 2 → Wf (run m (two.take i)) := by
  intro i
  induction i with
  | zero => intro _; exact g.wf
  | succ i ih =>
    intro hi
    have hl : two.length = 2 := rfl
    have hg : two[i]? = some (two[i]'(by omega)) := List.getElem?_eq_getElem (by omega)
    rw [take_snoc' hg, run_snoc]
    exact wf_step (ih (by omega)) (two_ok (c := 0) g (by decide) i _ hg)
section
variable {P : Program} {w : World} {K : PySem.W.Frag} {mg : Str → Option Value} {base : Heap} {C dl Cb fI CL Cn Cs : Addr}

/-! ### law -/
-- slots: 0 _law_script, 1 _law_box, 2 _law_deeds, 3 _law_models, 4 _law_desk, 5 _law_deed_here, 6 _law_turn, 7 _law_wrong_here, 8 _law_at, 9 _law_more, 10 _law_after, 11 _law_name, 12 _law_again, 13 _law_full_here, 14 _law_beyond, 15 _law_within, 16 _law_many
abbrev s_law : Stmt := top 52
theorem sc_law : FnScope ["_law_script", "_law_box", "_law_deeds", "_law_models", "_law_desk", "_law_deed_here", "_law_turn", "_law_wrong_here", "_law_at", "_law_more", "_law_after", "_law_name", "_law_again", "_law_full_here", "_law_beyond", "_law_within", "_law_many"] ["_law_script"] (defScope s_law) := ⟨rfl, rfl, rfl, by decide +kernel, rfl, by decide +kernel, by decide +kernel⟩
def spLaw (K : PySem.W.Frag) : Sp := fun vs H Q _ => ∃ (a : Addr) (ns : List Int), vs = [.ref a] ∧ SqL K H a (ns.map V.int) ∧ ns.length ≤ 63 ∧ ∀ H', Q (.bl true) H'
/-- what stands behind the law's start -/
structure Sit (C box p le lb : Addr) (m : Md) (es : List PyData) (FF F H : Hp) : Prop where
  ff : Same FF F
  sf : Same F H
  bx : BoxAt box F H
  dk : DeskAt C p le lb m es F H
theorem ok_law {f : Addr} {fd : FuncData} (F : Fun K "law" "law" s_law f fd) (T : Txt K w mg C dl) (c__law_digits : Cl P w K mg base CX0 2 "_law_digits" (sp_digits K)) (c__law_draw : Cl P w K mg base CX0 1 "_law_draw" sp_draw) (c__law_model : Cl P w K mg base CX0 4 "_law_model" sp_model)
    (c_Desk : Mkr P w K mg base C 1) (c_do : Ml P w K mg base C (L2.CX P w) 4 "do" (sp_do C Cb)) (c__law_wrong : Cl P w K mg base CX0 3 "_law_wrong" sp_wrong) (c__law_place : Cl P w K mg base CX0 5 "_law_place" (sp_place C)) (c__law_is_it : Cl P w K mg base CX0 3 "_law_is_it" (sp_is_it C))
    (c__law_replayed : Cl P w K mg base CX0 6 "_law_replayed" sp_replayed) (c__law_deed : Cl P w K mg base CX0 3 "_law_deed" sp_deed) (c__law_done : Cl P w K mg base CX0 1 "_law_done" sp_done) (c_replay : Cl P w K mg base (L2.CX P w) 5 "replay" (sp_replay C Cb)) (c__law_full : Cl P w K mg base CX0 5 "_law_full" (sp_full C))
    (c_log : Ml P w K mg base C CX0 1 "log" (sp_log C)) : FnOk P w K mg base CX0 7 f fd ["_law_script"] (spLaw K) := by
  refine F.ok sc_law (fun vs H Q E h => ?_) fun cdv A outer s H vs Q E hr h => ?_
  · obtain ⟨_, _, rfl, _⟩ := h
    rfl
  · obtain ⟨a, ns, rfl, hs, _, q⟩ := h
    refine ⟨_, (pss_cons (ps_set (i := 1) sc_law.nd rfl (Or.inl rfl) (pe_lst (pa_cons (pe_cl c__law_digits hr (by decide) rfl (pa_cons (pv 0) (pa_cons pe_int (pa_cons pe_int pa_nil)))) (pa_cons pe_int pa_nil)))) (pss_cons (ps_asg (pe_cl c__law_model hr (by decide) rfl (pa_cons (pv 1) (pa_cons (pe_cl c__law_draw hr (by decide) rfl (pa_cons (pv 1) (pa_cons pe_int pa_nil))) pa_nil))) (pg_lst rfl (pgs_cons (pg_name (i := 2) sc_law.nd rfl (Or.inl rfl)) (pgs_cons (pg_name (i := 3) sc_law.nd rfl (Or.inl rfl)) pgs_nil)))) (pss_cons (ps_set (i := 4) sc_law.nd rfl (Or.inl rfl) (pe_mk0 c_Desk hr (by decide) rfl)) (pss_cons (ps_for PassesOwn.never rfl (pi_list (pv 2)) (pg_name (i := 5) sc_law.nd rfl (Or.inl rfl)) (pss_one (ps_expr (pe_mlE c_do hr (by decide) passL (pv 4) (pa_cons (pv 5) pa_nil))))) (pss_cons (ps_for PassesOwn.never rfl (pi_range1 (by rfl) T.range (pa_cons pe_int pa_nil)) (pg_name (i := 6) sc_law.nd rfl (Or.inl rfl)) (pss_cons (ps_set (i := 7) sc_law.nd rfl (Or.inl rfl) (pe_cl c__law_wrong hr (by decide) rfl (pa_cons (pv 1) (pa_cons (pe_ix (ix_listK K) (pv 3) (pe_un un_neg pe_int) (fun _ _ => rfl)) pa_nil)))) (pss_cons (ps_if (PW.pt (pw_or (pt_cmpR op_ne (pe_cl c__law_place hr (by decide) rfl (pa_cons (pv 4) (pa_cons (pv 7) pa_nil))) (pe_callB call_len_seq (by rfl) T.len_ PySem.boot_len (pa_cons (pv 2) pa_nil)) (nomark _)) (pw_or1 (pt_not (pt_val (pe_cl c__law_is_it hr (by decide) rfl (pa_cons (pv 4) (pa_cons (pe_ix (ix_listK K) (pv 3) (pe_un un_neg pe_int) (fun _ _ => rfl)) (pa_cons (pv 2) pa_nil))))))))) (pss_one (ps_ret pe_bl)) pss_nil) (pss_cons (ps_set (i := 8) sc_law.nd rfl (Or.inl rfl) (pe_cl c__law_draw hr (by decide) rfl (pa_cons (pv 1) (pa_cons (pe_op op_add (pe_callB call_len_seq (by rfl) T.len_ PySem.boot_len (pa_cons (pv 2) pa_nil)) pe_int) pa_nil)))) (pss_cons (ps_set (i := 7) sc_law.nd rfl (Or.inl rfl) (pe_cl c__law_wrong hr (by decide) rfl (pa_cons (pv 1) (pa_cons (pe_ix (ix_listK K) (pv 3) (pv 8) (fun _ _ => rfl)) pa_nil)))) (pss_one (ps_if (pt_cmpR op_ne (pe_cl c__law_replayed hr (by decide) rfl (pa_cons (pe_op op_catA (pe_op op_catA (pe_callTy call_tuple_of (by rfl) T.tuple_ boot_tuple (pa_cons (pe_slice sl_list (pv 2) po_none (po_some (pv 8))) pa_nil)) (pe_tup (pa_cons (pv 7) pa_nil))) (pe_callTy call_tuple_of (by rfl) T.tuple_ boot_tuple (pa_cons (pe_slice sl_list (pv 2) (po_some (pv 8)) po_none) pa_nil))) pa_nil)) (pv 8) (nomark _)) (pss_one (ps_ret pe_bl)) pss_nil))))))) (pss_cons (ps_set (i := 9) sc_law.nd rfl (Or.inl rfl) (pe_cl c__law_deed hr (by decide) rfl (pa_cons (pv 1) (pa_cons (pe_ix (ix_listK K) (pv 3) (pe_un un_neg pe_int) (fun _ _ => rfl)) pa_nil)))) (pss_cons (ps_expr (pe_mlE c_do hr (by decide) passL (pv 4) (pa_cons (pv 9) pa_nil))) (pss_cons (ps_set (i := 10) sc_law.nd rfl (Or.inl rfl) (pe_cl c__law_done hr (by decide) rfl (pa_cons (pe_ix (ix_listK K) (pv 3) (pe_un un_neg pe_int) (fun _ _ => rfl)) (pa_cons (pv 9) pa_nil)))) (pss_cons (ps_if (pt_not (pt_val (pe_cl c__law_is_it hr (by decide) rfl (pa_cons (pv 4) (pa_cons (pv 10) (pa_cons (pe_op op_cat (pv 2) (pe_lst (pa_cons (pv 9) pa_nil))) pa_nil)))))) (pss_one (ps_ret pe_bl)) pss_nil) (pss_cons (ps_for PassesOwn.never rfl (pi_list (pe_lst (pa_cons pe_str (pa_cons pe_str pa_nil)))) (pg_name (i := 11) sc_law.nd rfl (Or.inl rfl)) (pss_cons (ps_expr (pe_mlE c_do hr (by decide) passL (pv 4) (pa_cons (pe_tup (pa_cons pe_str (pa_cons (pv 11) pa_nil))) pa_nil))) (pss_one (ps_set (i := 10) sc_law.nd rfl (Or.inl rfl) (pe_cl c__law_done hr (by decide) rfl (pa_cons (pv 10) (pa_cons (pe_tup (pa_cons pe_str (pa_cons (pv 11) pa_nil))) pa_nil))))))) (pss_cons (ps_if (pt_not (pt_val (pe_cl c__law_is_it hr (by decide) rfl (pa_cons (pv 4) (pa_cons (pv 10) (pa_cons (pe_op op_cat (pv 2) (pe_lst (pa_cons (pv 9) (pa_cons (pe_tup (pa_cons pe_str (pa_cons pe_str pa_nil))) (pa_cons (pe_tup (pa_cons pe_str (pa_cons pe_str pa_nil))) pa_nil))))) pa_nil)))))) (pss_one (ps_ret pe_bl)) pss_nil) (pss_cons (ps_set (i := 12) sc_law.nd rfl (Or.inl rfl) (pe_clE c_replay hr (by decide) rfl passL (pa_cons (pe_callTy call_tuple_of (by rfl) T.tuple_ boot_tuple (pa_cons (pv 2) pa_nil)) pa_nil))) (pss_cons (ps_if (pt_not (pt_val (pe_cl c__law_is_it hr (by decide) rfl (pa_cons (pv 12) (pa_cons (pe_ix (ix_listK K) (pv 3) (pe_un un_neg pe_int) (fun _ _ => rfl)) (pa_cons (pv 2) pa_nil)))))) (pss_one (ps_ret pe_bl)) pss_nil) (pss_cons (ps_if (pt_cmpR op_eq (pe_cl c__law_draw hr (by decide) rfl (pa_cons (pv 1) (pa_cons pe_int pa_nil))) pe_int (nomark _)) (pss_cons (ps_asg (pe_cl c__law_full hr (by decide) rfl (pa_cons (pv 1) pa_nil)) (pg_lst rfl (pgs_cons (pg_name (i := 13) sc_law.nd rfl (Or.inl rfl)) (pgs_cons (pg_name (i := 14) sc_law.nd rfl (Or.inl rfl)) (pgs_cons (pg_name (i := 15) sc_law.nd rfl (Or.inl rfl)) pgs_nil))))) (pss_cons (ps_set (i := 16) sc_law.nd rfl (Or.inl rfl) (pe_callB call_len_seq (by rfl) T.len_ PySem.boot_len (pa_cons (pe_ml0 c_log hr (by decide) (pv 13)) pa_nil))) (pss_cons (ps_if (pt_cmpR op_ne (pe_cl c__law_place hr (by decide) rfl (pa_cons (pv 13) (pa_cons (pv 14) pa_nil))) (pv 16) (nomark _)) (pss_one (ps_ret pe_bl)) pss_nil) (pss_one (ps_ret (pe_or (pe_cmpR (op_eqD hr.units) (pv 15) (pe_tup pa_nil) (nomark _)) (pe_one (pe_cmpR op_eq (pe_cl c__law_place hr (by decide) rfl (pa_cons (pv 13) (pa_cons (pv 15) pa_nil))) (pe_un un_neg pe_int) (nomark _))))))))) pss_nil) (pss_one (ps_ret pe_bl)))))))))))))))), ?_⟩
    have e0 : (start ["_law_script", "_law_box", "_law_deeds", "_law_models", "_law_desk", "_law_deed_here", "_law_turn", "_law_wrong_here", "_law_at", "_law_more", "_law_after", "_law_name", "_law_again", "_law_full_here", "_law_beyond", "_law_within", "_law_many"] [.ref a]) =
      [some (.ref a), none, none, none, none, none, none, none, none, none, none, none, none, none, none, none, none] := rfl
    rw [e0]
    -- the box
    refine q_asg ⟨_, rfl, (fun _ => none), a, ns, rfl, (fun b o z => nomatch z), hs, fun F1 H1 dg ds g1 hd0 fd1 hd1 => ⟨by show 2 ≤ sizeLine; decide, fun box hbox => ?_⟩⟩
    have g2 : Gw [] (fun _ => none) H (upd F1 dg (.lst (ds.map V.int))) H1 := g1.freeze fd1 hd0 hd1
    have fbox : upd F1 dg (.lst (ds.map V.int)) box = none := same_fnone g2.fh hbox
    have g3 : Gw [] (fun _ => none) H (upd F1 dg (.lst (ds.map V.int))) (upd H1 box (.lst [.ref dg, .int 0])) := g2.fresh hbox
    have hb3 : BoxAt box (upd F1 dg (.lst (ds.map V.int))) (upd H1 box (.lst [.ref dg, .int 0])) := ⟨⟨dg, 0, ds, upd_same, Int.le_refl _, upd_same⟩, fbox⟩
    have sf3 := g3.fh
    generalize upd F1 dg (.lst (ds.map V.int)) = F3 at hb3 sf3
    generalize upd H1 box (.lst [.ref dg, .int 0]) = H3 at hb3 sf3
    clear g1 g2 g3 fbox hd0 fd1 hd1 hbox
    refine (?_ : tSeq _ _ _ [some (.ref a), some (.ref box), none, none, none, none, none, none, none, none, none, none, none, none, none, none, none] H3)
    -- deeds, models
    refine q_asg (pr_call (W := boxW box) (sg_model boxIn) (pra_cons (pr_var (i := 1) rfl) (pra_cons (pr_call (sg_draw boxIn (many := 21) (by decide)) (pra_cons (pr_var (i := 1) rfl) (pra_cons pr_int pra_nil))) pra_nil)) F3 H3 (Gw.refl sf3) hb3 _ fun F4 H4 v4 g4 b4 s4 => ?_)
    obtain ⟨d4, hd4, es, rfl, hgd, hlen⟩ := s4
    obtain ⟨la, vd, vm, rfl, hla, hvd, hvm⟩ := lst2 hd4
    refine ⟨la, _, rfl, SqL.of (g4.fh _ _ hla), rfl, _, _, rfl, _, _, rfl, rfl, ?_⟩
    refine (?_ : tSeq _ _ _ [some (.ref a), some (.ref box), some vd, some vm, none, none, none, none, none, none, none, none, none, none, none, none, none] H4)
    have sf4 := g4.fh
    clear g4 hla
    -- desk
    refine q_asg (mk_desk sf4 fun F5 H5 p le lb g5 hp hle hlb da => ?_)
    refine (?_ : tSeq _ _ _ [some (.ref a), some (.ref box), some vd, some vm, some (.ref p), none, none, none, none, none, none, none, none, none, none, none, none] H5)
    have hbn : H4 box ≠ none := by
      obtain ⟨_, _, _, h, _⟩ := BoxAt.at_ b4
      exact nn h
    have hbox : box ∉ [p, le, lb] := fun z => by
      simp only [List.mem_cons, List.not_mem_nil, or_false] at z
      rcases z with z | z | z
      · exact hbn (z ▸ hp)
      · exact hbn (z ▸ hle)
      · exact hbn (z ▸ hlb)
    have hown : ∀ (m : Md) (es : List PyData), ∀ x ∈ (deskW C p le lb m es).own, x ≠ box := fun m es x hx z => hbox (z ▸ hx)
    have b5 : BoxAt box F5 H5 := box_keep g5 (fun z => nomatch z) b4
    have hvd5 : Dt F5 vd (.list (es.map Deed.d)) := hvd.mono g5.ff
    have hvm5 : Dt F5 vm (.list ((mdls es).map Md.d)) := hvm.mono g5.ff
    have sf5 := g5.fh
    clear g5 hvd hvm hd4
    have few : es.length ≤ 20 := hlen
    have hsd : ∀ j e, es[j]? = some e → ∀ c, c < 1000 → canDo (run md0 (es.take j)) c e.d = true := fun j e he c hc => (hgd j e he).can c hc
    -- for d in deeds: desk.do(d)
    refine q_forL (W := andW (boxW box) (deskW C p le lb md0 [])) (F := F5) (items := es.map Deed.d) sf5 ⟨b5, da⟩ (pr_dt (i := 2) rfl hvd5) fun F6 H6 g6 i6 => ⟨fun i σ' H' => ∃ (F' : Hp) (o5 : Option V), σ' = [some (.ref a), some (.ref box), some vd, some vm, some (.ref p), o5, none, none, none, none, none, none, none, none, none, none, none] ∧
      Same F6 F' ∧ Same F' H' ∧ BoxAt box F' H' ∧ DeskAt C p le lb (run md0 (es.take i)) ((es.map Deed.d).take i) F' H', ⟨F6, none, rfl, Same.refl _, g6.fh, i6.1, by rw [List.take_zero, List.take_zero]; exact i6.2⟩, ?_, ?_, ?_⟩
    · rintro i σ' H' ⟨F', _, _, f1, f2, _⟩
      exact f1.trans f2
    · rintro i d x σ' H' hd hx ⟨F', o5, rfl, f1, f2, hb', da'⟩
      rw [List.getElem?_map] at hd
      obtain ⟨e, he, rfl⟩ := Option.map_eq_some_iff.mp hd
      have hid : i < es.length := (List.getElem?_eq_some_iff.mp he).1
      have hlt : ((es.map Deed.d).take i).length = i := by rw [List.length_take, List.length_map]; omega
      refine (?_ : tDrop _ _ [some (.ref a), some (.ref box), some vd, some vm, some (.ref p), some x, none, none, none, none, none, none, none, none, none, none, none] H')
      refine st_do (W := andW (boxW box) (deskW C p le lb (run md0 (es.take i)) ((es.map Deed.d).take i))) (F := F') (m := run md0 (es.take i)) (es := (es.map Deed.d).take i) (ed := e) f2 ⟨hb', da'⟩ rfl (fun _ _ z => z.2) (gd_gen hgd i (by omega)).wf (by rw [hlt]; exact hsd i e he i (by omega)) (pr_dt (i := 5) rfl (hx.mono f1)) fun F7 H7 F8 H8 g7 i7 g8 da8 => ?_
      refine ⟨F8, _, rfl, (f1.trans g7.ff).trans g8.ff, g8.fh, box_keep g8 hbox i7.1, ?_⟩
      rw [take_snoc' he, run_snoc, take_snoc' (by rw [List.getElem?_map, he]; rfl)]
      exact da8
    rintro σ' H7 ⟨F7, o5, rfl, f67, sf7, b7, da7⟩
    have f57 : Same F5 F7 := g6.ff.trans f67
    rw [List.length_map, List.take_length, List.take_of_length_le (by rw [List.length_map]; exact Nat.le_refl _)] at da7
    have hvd7 := hvd5.mono f57
    have hvm7 := hvm5.mono f57
    clear g6 i6 f67 f57 da b5 hvd5 hvm5 sf5 b4 sf4
    have hgenM := gd_last hgd
    have wfM := hgenM.wf
    obtain ⟨l0, hml⟩ := mdls_last es
    have hmlD : (mdls es).map Md.d = l0.map Md.d ++ [(run md0 es).d] := by rw [hml, List.map_append]; rfl
    generalize hM : run md0 es = M at *
    have hshE : ∀ d ∈ es.map Deed.d, Sh 3 d := fun d hd => by
      obtain ⟨e, he, rfl⟩ := List.mem_map.mp hd
      obtain ⟨j, hj⟩ := List.getElem?_of_mem he
      exact can_sh (hsd j e hj 0 (by decide))
    have hokE : ∀ d ∈ es.map Deed.d, DOk d := fun d hd => by
      obtain ⟨e, he, rfl⟩ := List.mem_map.mp hd
      obtain ⟨j, hj⟩ := List.getElem?_of_mem he
      exact can_dok (hsd j e hj 0 (by decide))
    have hlE : (es.map Deed.d).length = es.length := List.length_map _
    -- models[-1]
    have hlast : ∀ {W : Wd} {F H : Hp} {o4 o5 o6 o7 o8 o9 o10 o11 o12 o13 o14 o15 o16 : Option V}, Same F7 F → Pr W (tOp (rIxL K) (tVar 3) (tUn (rU fun i => .int (-i)) (tC (.int 1)))) [some (.ref a), some (.ref box), some vd, some vm, o4, o5, o6, o7, o8, o9, o10, o11, o12, o13, o14, o15, o16] F H (.dt M.d) := fun {W F H o4 o5 o6 o7 o8 o9 o10 o11 o12 o13 o14 o15 o16} g =>
      pr_ixLast (ds := l0.map Md.d) (i := -1) rfl (pr_dt (i := 3) rfl (hmlD ▸ hvm7.mono g)) (pr_neg (pr_int (n := 1)))
    have hdeeds : ∀ {W : Wd} {F H : Hp} {o4 o5 o6 o7 o8 o9 o10 o11 o12 o13 o14 o15 o16 : Option V}, Same F7 F → Pr W (tVar 2) [some (.ref a), some (.ref box), some vd, some vm, o4, o5, o6, o7, o8, o9, o10, o11, o12, o13, o14, o15, o16] F H (.dt (.list (es.map Deed.d))) := fun {W F H o4 o5 o6 o7 o8 o9 o10 o11 o12 o13 o14 o15 o16} g => pr_dt (i := 2) rfl (hvd7.mono g)
    have hI : ∀ {m : Md} {es : List PyData} (F H : Hp), (andW (boxW box) (deskW C p le lb m es)).I F H → DeskAt C p le lb m es F H := fun _ _ z => z.2
    -- four turns
    refine q_forR (W := andW (boxW box) (deskW C p le lb M (es.map Deed.d))) (F := F7) (n := 4) sf7 ⟨b7, da7⟩ pr_int (by decide)
      (fun i σ' H' => ∃ (F' : Hp) (o6 o7 o8 : Option V), σ' = [some (.ref a), some (.ref box), some vd, some vm, some (.ref p), o5, o6, o7, o8, none, none, none, none, none, none, none, none] ∧ Sit C box p le lb M (es.map Deed.d) F7 F' H')
      (fun F8 H8 g8 i8 => ⟨F8, none, none, none, rfl, ⟨g8.ff, g8.fh, i8.1, i8.2⟩⟩) (fun i σ' H8 hi h => ?_) (fun σ' H8 h => ?_)
    · obtain ⟨F8, o6, o7, o8, rfl, st⟩ := h
      refine (?_ : tSeq _ _ _ [some (.ref a), some (.ref box), some vd, some vm, some (.ref p), o5, some (.int (i : Int)), o7, o8, none, none, none, none, none, none, none, none] H8)
      -- wrong
      refine q_set (W := andW (boxW box) (deskW C p le lb M (es.map Deed.d))) (F := F8) st.sf ⟨st.bx, st.dk⟩ (pr_call (sg_wrong (boxIn_and (hown _ _)) wfM) (pra_cons (pr_var (i := 1) rfl) (pra_cons (hlast st.ff) pra_nil))) fun F9 H9 v9 g9 i9 s9 => ?_
      obtain ⟨dw, hdw, hmw⟩ := s9
      refine q_when (W := andW (boxW box) (deskW C p le lb M (es.map Deed.d))) (F := F9) (b := false) g9.fh i9 (prt_to (prt_or (k := false) (l := false) (prt_to (prt_test (pr_neI (pr_call (sg_place_no hI wfM (wrongs_ok wfM hmw) (wrong_no hgenM hmw _)) (pra_cons (pr_var (i := 4) rfl) (pra_cons (pr_dt (i := 7) rfl hdw) pra_nil))) (pr_lenL (hdeeds (st.ff.trans g9.ff))))) (by simp)) fun _ =>
        prt_not (k := true) (prt_B (pr_call (sg_is_it hI wfM hshE) (pra_cons (pr_var (i := 4) rfl) (pra_cons (hlast (st.ff.trans g9.ff)) (pra_cons (hdeeds (st.ff.trans g9.ff)) pra_nil)))))) rfl) (fun z => nomatch z) fun _ F10 H10 g10 i10 => ?_
      have f10 := (st.ff.trans g9.ff).trans g10.ff
      -- at
      refine q_set (W := andW (boxW box) (deskW C p le lb M (es.map Deed.d))) (F := F10) g10.fh i10 (pr_call (sg_draw (boxIn_and (hown _ _)) (many := ((es.map Deed.d).length : Int) + 1) (by omega)) (pra_cons (pr_var (i := 1) rfl) (pra_cons (pr_add (pr_lenL (hdeeds f10)) pr_int) pra_nil))) fun F11 H11 v11 g11 i11 s11 => ?_
      obtain ⟨d11, hd11, n, rfl, hn⟩ := s11
      cases hd11
      have hn' : n ≤ es.length := by omega
      have f11 := f10.trans g11.ff
      have hgenN := gd_gen hgd n hn'
      -- wrong at that place
      refine q_set (W := andW (boxW box) (deskW C p le lb M (es.map Deed.d))) (F := F11) g11.fh i11 (pr_call (sg_wrong (m := run md0 (es.take n)) (boxIn_and (hown _ _)) hgenN.wf) (pra_cons (pr_var (i := 1) rfl) (pra_cons (pr_ixL (n := n) (d := (run md0 (es.take n)).d) rfl (by rw [List.getElem?_map, mdls_get es hn']; rfl) (pr_dt (i := 3) rfl (hvm7.mono f11)) (pr_dt (i := 8) rfl (.int _))) pra_nil))) fun F12 H12 v12 g12 i12 s12 => ?_
      obtain ⟨dx, hdx, hmx⟩ := s12
      have f12 := f11.trans g12.ff
      have hln : n ≤ (es.map Deed.d).length := by omega
      have htl : ((es.map Deed.d).take n).length = n := by rw [List.length_take]; omega
      have hDSn : ((es.map Deed.d).take n ++ [dx] ++ (es.map Deed.d).drop n)[n]? = some dx := by
        rw [List.append_assoc, List.getElem?_append_right (by omega), htl, Nat.sub_self]; rfl
      have path : Path (fun j => run md0 (es.take j)) ((es.map Deed.d).take n ++ [dx] ++ (es.map Deed.d).drop n) n := ⟨by show run md0 (es.take 0) = md0; rw [List.take_zero]; rfl, fun j hj => by
        have hg : es[j]? = some (es[j]'(by omega)) := List.getElem?_eq_getElem (by omega)
        refine ⟨es[j]'(by omega), ?_, hsd j _ hg j (by omega), ?_⟩
        · rw [List.append_assoc, List.getElem?_append_left (by omega), List.getElem?_take, if_pos hj, List.getElem?_map, hg]; rfl
        · show run md0 (es.take (j + 1)) = step (run md0 (es.take j)) _
          rw [take_snoc' hg, run_snoc]⟩
      have hokD : ∀ d ∈ (es.map Deed.d).take n ++ [dx] ++ (es.map Deed.d).drop n, DOk d := fun d hd => by
        rcases List.mem_append.mp hd with hd | hd
        · rcases List.mem_append.mp hd with hd | hd
          · exact hokE d (List.mem_of_mem_take hd)
          · have : d = dx := by simpa using hd
            rw [this]; exact wrongs_ok hgenN.wf hmx
        · exact hokE d (List.mem_of_mem_drop hd)
      refine s_when (W := andW (boxW box) (deskW C p le lb M (es.map Deed.d))) (F := F12) (b := false) g12.fh i12 (prt_to (prt_test (pr_neI (pr_call (sg_replayed path hokD hDSn (wrong_no hgenN hmx n)) (pra_cons (pr_catT (by rw [List.length_append, htl, List.length_drop, hlE]; simp only [List.length]; omega) (pr_catT (by rw [htl]; simp only [List.length]; omega) (pr_tupleL (pr_take hln (hdeeds f12) (pr_dt (i := 8) rfl (.int _)))) (pr_tup (prd_cons (pr_dt (i := 7) rfl hdx) prd_nil) (by simp only [List.length]; omega))) (pr_tupleL (pr_drop hln (hdeeds f12) (pr_dt (i := 8) rfl (.int _))))) pra_nil)) (pr_dt (i := 8) rfl (.int (n : Int))))) (by simp)) (fun z => nomatch z) fun _ F13 H13 g13 i13 => ?_
      exact ⟨F13, _, _, _, rfl, ⟨f12.trans g13.ff, g13.fh, i13.1, i13.2⟩⟩
    · obtain ⟨F8, o6, o7, o8, rfl, st⟩ := h
      -- more
      refine q_set (W := andW (boxW box) (deskW C p le lb M (es.map Deed.d))) (F := F8) st.sf ⟨st.bx, st.dk⟩ (pr_call (sg_deed (boxIn_and (hown _ _)) hgenM (by omega)) (pra_cons (pr_var (i := 1) rfl) (pra_cons (hlast st.ff) pra_nil))) fun F9 H9 v9 g9 i9 s9 => ?_
      obtain ⟨d9, hd9, e, rfl, hgood⟩ := s9
      have f9 := st.ff.trans g9.ff
      have hgen1 := hgood.gen
      -- desk.do(more)
      refine q_do (W := andW (boxW box) (deskW C p le lb M (es.map Deed.d))) (F := F9) (m := M) (es := es.map Deed.d) (ed := e) g9.fh i9 rfl hI wfM (hgood.can _ (by omega)) (pr_dt (i := 9) rfl hd9) fun F10 H10 F11 H11 g10 i10 g11 da11 => ?_
      have b11 := box_keep g11 hbox i10.1
      have f11 : Same F7 F11 := (f9.trans g10.ff).trans g11.ff
      have hd11 : Dt F11 v9 e.d := hd9.mono (g10.ff.trans g11.ff)
      -- after
      refine q_set (W := andW (boxW box) (deskW C p le lb (step M e) (es.map Deed.d ++ [e.d]))) (F := F11) g11.fh ⟨b11, da11⟩ (pr_call (sg_done (good_named hgood) (by have := wfM.few; omega) (by have := wfM.few2; omega)) (pra_cons (hlast f11) (pra_cons (pr_dt (i := 9) rfl hd11) pra_nil))) fun F12 H12 v12 g12 i12 s12 => ?_
      have f12 := f11.trans g12.ff
      have hd12 := hd11.mono g12.ff
      have hsh1 : ∀ d ∈ es.map Deed.d ++ [e.d], Sh 3 d := fun d hd => by
        rcases List.mem_append.mp hd with hd | hd
        · exact hshE d hd
        · have : d = e.d := by simpa using hd
          rw [this]; exact can_sh (hgood.can 0 (by decide))
      refine q_when (W := andW (boxW box) (deskW C p le lb (step M e) (es.map Deed.d ++ [e.d]))) (F := F12) (b := false) g12.fh i12 (prt_not (k := true) (prt_B (pr_call (sg_is_it hI hgen1.wf hsh1) (pra_cons (pr_var (i := 4) rfl) (pra_cons (pr_dt (i := 10) rfl s12) (pra_cons (pr_catL (by rw [hlE]; simp only [List.length]; omega) (hdeeds f12) (pr_lst (prd_cons (pr_dt (i := 9) rfl hd12) prd_nil) (by simp only [List.length]; omega))) pra_nil)))))) (fun z => nomatch z) fun _ F13 H13 g13 i13 => ?_
      -- two marks more
      refine q_forL (W := andW (boxW box) (deskW C p le lb (step M e) (es.map Deed.d ++ [e.d]))) (F := F13) (items := [.str "q", .str "abcdefgh"]) g13.fh i13 (pr_lst (prd_cons pr_str (prd_cons pr_str prd_nil)) (by simp only [List.length]; omega)) fun F14 H14 g14 i14 => ⟨fun i σ' H' => ∃ (F' : Hp) (v10 : V) (o11 : Option V),
        σ' = [some (.ref a), some (.ref box), some vd, some vm, some (.ref p), o5, o6, o7, o8, some v9, some v10, o11, none, none, none, none, none] ∧ Sit C box p le lb (run (step M e) (two.take i)) (es.map Deed.d ++ [e.d] ++ (two.take i).map Deed.d) F14 F' H' ∧ Dt F' v10 (run (step M e) (two.take i)).d,
        ⟨F14, v12, none, rfl, ⟨Same.refl _, g14.fh, i14.1, by
          show DeskAt C p le lb (step M e) (es.map Deed.d ++ [e.d] ++ []) F14 H14
          rw [List.append_nil]
          exact i14.2⟩, Dt.mono (g13.ff.trans g14.ff) s12⟩, ?_, ?_, ?_⟩
      · rintro i σ' H' ⟨F', _, _, _, st, _⟩
        exact st.ff.trans st.sf
      · rintro i d x σ' H' hd hx ⟨F', v10, o11, rfl, st, h10⟩
        obtain ⟨s, hs, rfl⟩ : ∃ s, two[i]? = some (.mark s) ∧ d = .str s := by
          match i, hd with
          | 0, hd => exact ⟨"q", rfl, by simpa using hd.symm⟩
          | 1, hd => exact ⟨"abcdefgh", rfl, by simpa using hd.symm⟩
          | i + 2, hd => simp at hd
        have hi2 : i < 2 := (List.getElem?_eq_some_iff.mp hs).1
        cases hx
        refine (?_ : tSeq _ _ _ [some (.ref a), some (.ref box), some vd, some vm, some (.ref p), o5, o6, o7, o8, some v9, some v10, some (.str s), none, none, none, none, none] H')
        have wfi := two_wf hgen1 i (by omega)
        have hlc : (es.map Deed.d ++ [e.d] ++ (two.take i).map Deed.d).length < 1000 := by
          rw [List.length_append, List.length_append, List.length_map, List.length_map, List.length_take]
          simp only [List.length]
          omega
        refine q_do (W := andW (boxW box) (deskW C p le lb (run (step M e) (two.take i)) (es.map Deed.d ++ [e.d] ++ (two.take i).map Deed.d))) (F := F') (m := run (step M e) (two.take i)) (es := es.map Deed.d ++ [e.d] ++ (two.take i).map Deed.d) (ed := .mark s) st.sf ⟨st.bx, st.dk⟩ rfl hI wfi (two_ok hgen1 hlc i _ hs)
          (pr_tup (prd_cons pr_str (prd_cons (pr_dt (i := 11) rfl (.str s)) prd_nil)) (by simp only [List.length]; omega)) fun F15 H15 F16 H16 g15 i15 g16 da16 => ?_
        have b16 := box_keep g16 hbox i15.1
        have e1 : run (step M e) (two.take (i + 1)) = step (run (step M e) (two.take i)) (.mark s) := by rw [take_snoc' hs, run_snoc]
        have e2 : es.map Deed.d ++ [e.d] ++ (two.take (i + 1)).map Deed.d = es.map Deed.d ++ [e.d] ++ (two.take i).map Deed.d ++ [(Deed.mark s).d] := by
          rw [take_snoc' hs, List.map_append, ← List.append_assoc]; rfl
        rw [← e1, ← e2] at da16
        refine s_set (W := andW (boxW box) (deskW C p le lb (run (step M e) (two.take (i + 1))) (es.map Deed.d ++ [e.d] ++ (two.take (i + 1)).map Deed.d))) (F := F16) (a := .dt (run (step M e) (two.take (i + 1))).d) g16.fh ⟨b16, da16⟩ (pr_to (pr_call (sg_done (e := .mark s) True.intro (by have := wfi.few; omega) (by have := wfi.few2; omega)) (pra_cons (pr_dt (i := 10) rfl (h10.mono (g15.ff.trans g16.ff))) (pra_cons (pr_tup (prd_cons pr_str (prd_cons (pr_dt (i := 11) rfl (.str s)) prd_nil)) (by simp only [List.length]; omega)) pra_nil))) (by rw [e1])) fun F17 H17 v17 g17 i17 s17 => ?_
        exact ⟨F17, v17, _, rfl, ⟨((st.ff.trans g15.ff).trans g16.ff).trans g17.ff, g17.fh, i17.1, i17.2⟩, s17⟩
      rintro σ' H15 ⟨F15, v10, o11, rfl, st15, h10⟩
      have f15 : Same F7 F15 := ((f12.trans g13.ff).trans g14.ff).trans st15.ff
      have hd15 : Dt F15 v9 e.d := hd12.mono ((g13.ff.trans g14.ff).trans st15.ff)
      obtain ⟨ff15, sf15, b15, da15⟩ := st15
      have wf15 : Wf (run (step M e) (two.take 2)) := two_wf hgen1 2 (Nat.le_refl _)
      have e15 : es.map Deed.d ++ [e.d] ++ (two.take 2).map Deed.d = es.map Deed.d ++ [e.d, (Deed.mark "q").d, (Deed.mark "abcdefgh").d] := by
        rw [List.append_assoc]; rfl
      have da15' : DeskAt C p le lb (run (step M e) (two.take 2)) (es.map Deed.d ++ [e.d, (Deed.mark "q").d, (Deed.mark "abcdefgh").d]) F15 H15 := e15 ▸ da15
      have h10' : Dt F15 v10 (run (step M e) (two.take 2)).d := h10
      have hsh2 : ∀ d ∈ es.map Deed.d ++ [e.d, (Deed.mark "q").d, (Deed.mark "abcdefgh").d], Sh 3 d := fun d hd => by
        rcases List.mem_append.mp hd with hd | hd
        · exact hshE d hd
        · simp only [List.mem_cons, List.not_mem_nil, or_false] at hd
          rcases hd with rfl | rfl | rfl
          · exact can_sh (hgood.can 0 (by decide))
          · exact can_sh (two_ok hgen1 (c := 0) (by decide) 0 _ rfl)
          · exact can_sh (two_ok hgen1 (c := 0) (by decide) 1 _ rfl)
      refine q_when (W := andW (boxW box) (deskW C p le lb (run (step M e) (two.take 2)) (es.map Deed.d ++ [e.d, (Deed.mark "q").d, (Deed.mark "abcdefgh").d]))) (F := F15) (b := false) sf15 ⟨b15, da15'⟩ (prt_not (k := true) (prt_B (pr_call (sg_is_it hI wf15 hsh2) (pra_cons (pr_var (i := 4) rfl) (pra_cons (pr_dt (i := 10) rfl h10') (pra_cons (pr_catL (by rw [hlE]; simp only [List.length]; omega) (hdeeds f15) (pr_lst (prd_cons (pr_dt (i := 9) rfl hd15)
        (prd_cons (pr_tup (ds := [.str "mark", .str "q"]) (prd_cons pr_str (prd_cons pr_str prd_nil)) (by simp only [List.length]; omega)) (prd_cons (pr_tup (ds := [.str "mark", .str "abcdefgh"]) (prd_cons pr_str (prd_cons pr_str prd_nil)) (by simp only [List.length]; omega)) prd_nil))) (by simp only [List.length]; omega))) pra_nil)))))) (fun z => nomatch z) fun _ F16 H16 g16 i16 => ?_
      have f16 := f15.trans g16.ff
      -- again
      refine q_call (pra_cons (pr_tupleL (hdeeds f16)) pra_nil F16 H16 (Gw.refl g16.fh) i16 _ fun F17 H17 vs g17 i17 s17 => ?_)
      obtain ⟨vt, _, rfl, hvt, rfl⟩ := s17
      have f17 := f16.trans g17.ff
      have pathE : Path (fun j => run md0 (es.take j)) (es.map Deed.d) es.length := ⟨by show run md0 (es.take 0) = md0; rw [List.take_zero]; rfl, fun j hj => by
        have hg : es[j]? = some (es[j]'(by omega)) := List.getElem?_eq_getElem (by omega)
        refine ⟨es[j]'(by omega), by rw [List.getElem?_map, hg]; rfl, hsd j _ hg j (by omega), ?_⟩
        show run md0 (es.take (j + 1)) = step (run md0 (es.take j)) _
        rw [take_snoc' hg, run_snoc]⟩
      refine ⟨F17, vt, es.map Deed.d, _, es.length, rfl, g17.fh, hvt, pathE, by rw [hlE]; exact Nat.le_refl _, hokE, fun d hd => ?_, fun _ F18 H18 p2 le2 lb2 g18 hp2 hle2 hlb2 da18 => ?_⟩
      · rw [List.getElem?_eq_none (by rw [hlE]; exact Nat.le_refl _)] at hd
        cases hd
      refine (?_ : tSeq _ _ _ [some (.ref a), some (.ref box), some vd, some vm, some (.ref p), o5, o6, o7, o8, some v9, some v10, o11, some (.ref p2), none, none, none, none] H18)
      have b18 := box_keep g18 (fun z => nomatch z) i17.1
      have f18 := f17.trans g18.ff
      have eM : run md0 (es.take es.length) = M := by rw [List.take_length]; exact hM
      have da18' : DeskAt C p2 le2 lb2 M (es.map Deed.d) F18 H18 := eM ▸ da18
      have hbn17 : H17 box ≠ none := by
        obtain ⟨_, _, _, h, _⟩ := BoxAt.at_ i17.1
        exact nn h
      have hbox2 : ∀ x ∈ (deskW C p2 le2 lb2 M (es.map Deed.d)).own, x ≠ box := fun x hx z => by
        have hx' : x = p2 ∨ x = le2 ∨ x = lb2 := by simpa [deskW] using hx
        rcases hx' with h | h | h
        · exact hbn17 (z ▸ h ▸ hp2)
        · exact hbn17 (z ▸ h ▸ hle2)
        · exact hbn17 (z ▸ h ▸ hlb2)
      refine q_when (W := andW (boxW box) (deskW C p2 le2 lb2 M (es.map Deed.d))) (F := F18) (b := false) g18.fh ⟨b18, da18'⟩ (prt_not (k := true) (prt_B (pr_call (sg_is_it (p := p2) (le := le2) (lb := lb2) (fun _ _ z => z.2) wfM hshE) (pra_cons (pr_var (i := 12) rfl) (pra_cons (hlast f18) (pra_cons (hdeeds f18) pra_nil)))))) (fun z => nomatch z) fun _ F19 H19 g19 i19 => ?_
      refine q_any (W := boxW box) (F := F19) (n := 0) g19.fh i19.1 (Pr.imp (pr_call (sg_draw boxIn (many := 9) (by decide)) (pra_cons (pr_var (i := 1) rfl) (pra_cons pr_int pra_nil))) fun F v h => by
        obtain ⟨d, hd, n, rfl, _⟩ := h
        exact ⟨_, hd, _, rfl⟩) pr_int (fun F20 H20 g20 i20 => ?_) (fun F20 H20 g20 i20 => q _)
      -- full
      refine q_asg ⟨_, rfl, F20, box, rfl, g20.fh, i20, fun F21 H21 r p3 le3 lb3 m3 es3 vb vw b wd g21 hp3 hle3 hlb3 da3 wf3 hr3 hvb hokb hcb hvw hw => ?_⟩
      refine ⟨r, _, rfl, SqL.of hr3, rfl, _, _, rfl, _, _, rfl, _, _, rfl, rfl, ?_⟩
      refine (?_ : tSeq _ _ _ [some (.ref a), some (.ref box), some vd, some vm, some (.ref p), o5, o6, o7, o8, some v9, some v10, o11, some (.ref p2), some (.ref p3), some vb, some vw, none] H21)
      have hp : ∀ (mm : Str), (∀ {pm pr : Addr} {a b : Int}, (fsD pm pr a b le3 lb3).lookup mm = none) → ∀ F H, (deskW C p3 le3 lb3 m3 es3).I F H → ∃ dx fs, H p3 = some (.ins C dx fs) ∧ fs.lookup mm = none := fun mm hmm F H i => by
        obtain ⟨dx, pm, pr, e1, _⟩ := DeskAt.ins i
        exact ⟨dx, _, e1, hmm⟩
      refine q_set (W := deskW C p3 le3 lb3 m3 es3) (F := F21) (a := .dt (.int es3.length)) g21.fh da3 (pr_lenT (pr_meth (sg_log (fun _ _ z => z)) (pr_var (i := 13) rfl) (hp "log" lk_log) pra_nil)) fun F22 H22 v22 g22 i22 s22 => ?_
      cases s22
      refine q_when (W := deskW C p3 le3 lb3 m3 es3) (F := F22) (b := false) g22.fh i22 (prt_to (prt_test (pr_neI (pr_call (sg_place_no (fun _ _ z => z) wf3 hokb hcb) (pra_cons (pr_var (i := 13) rfl) (pra_cons (pr_dt (i := 14) rfl (hvb.mono g22.ff)) pra_nil))) (pr_dt (i := 16) rfl (.int (es3.length : Int))))) (by simp)) (fun z => nomatch z) fun _ F23 H23 g23 i23 => ?_
      have hvw' := (hvw.mono g22.ff).mono g23.ff
      have shn : SeqAt.shaped (.tuple []) = true := (sh_tup (n := 1) (ds := []) (fun _ h => nomatch h)).ok (by decide)
      rcases hw with rfl | ⟨ew, rfl, hcw⟩
      · refine s_ret (W := deskW C p3 le3 lb3 m3 es3) (F := F23) (a := .dt (.bool true)) g23.fh i23 (pr_to (pr_or (k := true) (l := true) (pr_to (pr_eqD shn shn (pr_dt (i := 15) rfl hvw') (pr_tup prd_nil (Nat.zero_le _))) (by rw [(sh_tup (n := 1) (ds := []) (fun _ h => nomatch h)).refl])) fun z => nomatch z) rfl) fun F24 H24 v24 g24 i24 s24 => ?_
        cases s24
        exact q _
      · refine s_or (W := deskW C p3 le3 lb3 m3 es3) (F := F23) g23.fh i23 (pr_to (pr_eqD ((can_sh hcw).ok (by decide)) shn (pr_dt (i := 15) rfl hvw') (pr_tup prd_nil (Nat.zero_le _))) ?_) fun F24 H24 g24 i24 => ?_
        · cases ew <;> exact congrArg PyData.bool eqv_nil
        · refine ⟨_, rfl, _, rfl, F24, p3, le3, lb3, m3, es3, vw, ew.d, rfl, g24.fh, i24, wf3, hvw'.mono g24.ff, can_dok hcw, fun z => (by rw [hcw] at z; cases z), fun _ e' he' F25 H25 g25 da25 => ⟨1, rfl, rfl, ?_⟩⟩
          rw [decide_eq_true rfl]
          exact q _
end
end K39
end

section
set_option Elab.async false
set_option linter.all false
set_option maxRecDepth 100000
set_option maxHeartbeats 8000000
namespace K39
open PySem PySem.Spec PyProof.Rows L2
theorem kit_ref {K : PySem.W.Frag} {D C : Addr} {b : Bool} (hne : (Value.ref D == Value.ref C) = false) (hd : PySem.W.hasDictIn K C = true) (ht : PySem.W.typeIn K (.ref C) = some (.type "type")) (hs : PySem.W.subIn K (.ref D) (.ref C) = some b) : PySem.W.kitOne K (.ref D) (.ref C) = some b := by
  have hc : (PySem.W.clsIn K C).isSome = true := by
    unfold PySem.W.hasDictIn at hd
    cases h : PySem.W.clsIn K C with
    | some cd => rfl
    | none =>
      rw [h] at hd
      cases hd
  have e2 : ((PySem.W.clsIn K C).isSome && PySem.W.typeIn K (.ref C) == some (.type "type")) = true := by rw [hc, ht] <;> rfl
  show (if (Value.ref D == Value.ref C) = true then some true else (if ((PySem.W.clsIn K C).isSome && PySem.W.typeIn K (.ref C) == some (.type "type")) = true then PySem.W.subIn K (.ref D) (.ref C) else none)) = some b
  rw [if_neg (by rw [hne]; decide), if_pos e2]
  exact hs
theorem kit_self {K : PySem.W.Frag} {D : Addr} : PySem.W.kitOne K (.ref D) (.ref D) = some true := by
  unfold PySem.W.kitOne
  rw [if_pos (by simp)]
theorem kit_ve {K : PySem.W.Frag} {D : Addr} (hs : PySem.W.subIn K (.ref D) (.type "ValueError") = some true) : PySem.W.kitOne K (.ref D) (.type "ValueError") = some true := by
  have h1 : (Value.ref D == Value.type "ValueError") = false := by first | rfl | simp
  have h2 : PySem.W.kitMeta "ValueError" = true := by decide +kernel
  show (if (Value.ref D == Value.type "ValueError") = true then some true else (if PySem.W.kitMeta "ValueError" = true then PySem.W.subIn K (.ref D) (.type "ValueError") else none)) = some true
  rw [if_neg (by rw [h1]; decide), if_pos h2]
  exact hs

theorem law_ok {P : Program} {w : World} {K : PySem.W.Frag} {mg : Str → Option Value} {base : Heap} {C dl Cb fI CL Cn Cs f : Addr} {fd : FuncData} (T : Txt K w mg C dl) (TB : BE.BeTxt P K mg Cb fI) (TE : ErrTxt K mg Cb CL Cn Cs)
    (d0 : Df K mg "reached" s_reached)
    (d1 : Df K mg "is_integer" s_is_integer)
    (d2 : Df K mg "is_name" s_is_name)
    (d3 : Df K mg "is_shaped" s_is_shaped)
    (d4 : Df K mg "replay" s_replay)
    (d5 : Df K mg "_law_cell" s_l_cell)
    (d6 : Df K mg "_law_digits" s_l_digits)
    (d7 : Df K mg "_law_draw" s_l_draw)
    (d8 : Df K mg "_law_pick" s_l_pick)
    (d9 : Df K mg "_law_word" s_l_word)
    (d10 : Df K mg "_law_deed" s_l_deed)
    (d11 : Df K mg "_law_done" s_l_done)
    (d12 : Df K mg "_law_net_of" s_l_net_of)
    (d13 : Df K mg "_law_parts" s_l_parts)
    (d14 : Df K mg "_law_model" s_l_model)
    (d15 : Df K mg "_law_is_it" s_l_is_it)
    (d16 : Df K mg "_law_place" s_l_place)
    (d17 : Df K mg "_law_replayed" s_l_replayed)
    (d18 : Df K mg "_law_wrong" s_l_wrong)
    (d19 : Df K mg "_law_full" s_l_full)
    (m1 : Dm K C "can_mark" "Desk.can_mark" s_can_mark)
    (m2 : Dm K C "can_read" "Desk.can_read" s_can_read)
    (m3 : Dm K C "can_do" "Desk.can_do" s_can_do)
    (m4 : Dm K C "do" "Desk.do" s_do)
    (m5 : Dm K C "log" "Desk.log" s_log)
    (m6 : Dm K C "readings" "Desk.readings" s_readings)
    (m7 : Dm K C "numbers" "Desk.numbers" s_numbers)
    (m8 : Dm K C "net" "Desk.net" s_net)
    (m9 : Dm K C "bound" "Desk.bound" s_bound)
    (m10 : Dm K C "parts" "Desk.parts" s_parts)
    {g0 : Addr} {gd : FuncData} (mI : Fun K "__init__" "Desk.__init__" s_init g0 gd) (kI : Mk K C g0) (F : Fun K "law" "law" s_law f fd) : FnOk P w K mg base CX0 7 f fd ["_law_script"] (spLaw K) := by
  have c_int : Cl P w K mg base CX0 1 "is_integer" sp_is_integer := ok_is_integer d1 T
  have c_name : Cl P w K mg base CX0 1 "is_name" sp_is_name := ok_is_name d2 T
  have c_sh : Cl P w K mg base CX0 1 "is_shaped" sp_is_shaped := ok_is_shaped d3 T
  have c_log : Ml P w K mg base C CX0 1 "log" (sp_log C) := ok_log m5 T
  have c_rd : Ml P w K mg base C CX0 1 "readings" (sp_rd C rdsD) := ok_readings m6 T
  have c_nu : Ml P w K mg base C CX0 1 "numbers" (sp_rd C numsD) := ok_numbers m7 T
  have c_bo : Ml P w K mg base C CX0 1 "bound" (sp_rd C fun m => .int m.k) := ok_bound m9 T
  have c_cm : Ml P w K mg base C CX0 2 "can_mark" (sp_can_mark C) := ok_can_mark m1 T c_name
  have c_cr : Ml P w K mg base C CX0 2 "can_read" (sp_can_read C) := ok_can_read m2 T c_name c_int
  have c_cd : Ml P w K mg base C CX0 3 "can_do" (sp_can_do C) := ok_can_do m3 T c_sh c_int c_cm c_cr c_nu
  have c_do : Ml P w K mg base C (L2.CX P w) 4 "do" (sp_do C Cb) := ok_do m4 T TB c_cd
  have c_net : Ml P w K mg base C CX0 2 "net" (sp_net C) := ok_net m8 T c_rd
  have c_re : Cl P w K mg base CX0 1 "reached" sp_reached := ok_reached d0 T
  have c_pa : Ml P w K mg base C CX0 2 "parts" (sp_parts C) := ok_parts m10 T c_rd c_re
  have c_mk : Mkr P w K mg base C 1 := ⟨T.gDesk, _, _, _, kI, ok_init mI T, mI.binds (ps := ["self"]) fun _ _ _ _ _ _ us hl => match us, hl with | [_], _ => rfl⟩
  have c_rp : Cl P w K mg base (L2.CX P w) 5 "replay" (sp_replay C Cb) := ok_replay d4 c_mk c_do
  have c_ce : Cl P w K mg base CX0 1 "_law_cell" (sp_cell K) := ok_cell d5 T
  have c_di : Cl P w K mg base CX0 2 "_law_digits" (sp_digits K) := ok_digits d6 T c_ce
  have c_dr : Cl P w K mg base CX0 1 "_law_draw" sp_draw := ok_draw d7 T
  have c_pi : Cl P w K mg base CX0 2 "_law_pick" sp_pick := ok_pick d8 T c_dr
  have c_wo : Cl P w K mg base CX0 1 "_law_word" sp_word := ok_word d9 T
  have c_de : Cl P w K mg base CX0 3 "_law_deed" sp_deed := ok_deed d10 T c_dr c_pi c_wo
  have c_dn : Cl P w K mg base CX0 1 "_law_done" sp_done := ok_done d11 T
  have c_no : Cl P w K mg base CX0 1 "_law_net_of" (sp_of netD) := ok_net_of d12 T
  have c_lp : Cl P w K mg base CX0 1 "_law_parts" (sp_of partsD) := ok_l_parts d13 T
  have c_mo : Cl P w K mg base CX0 4 "_law_model" sp_model := ok_model d14 T c_de c_dn
  have c_is : Cl P w K mg base CX0 3 "_law_is_it" (sp_is_it C) := ok_is_it d15 T c_log c_bo c_nu c_pa c_net c_lp c_no
  have c_pl : Cl P w K mg base CX0 5 "_law_place" (sp_place C) := ok_place d16 T TE c_do
  have c_rl : Cl P w K mg base CX0 6 "_law_replayed" sp_replayed := ok_replayed d17 T TE c_rp
  have c_wr : Cl P w K mg base CX0 3 "_law_wrong" sp_wrong := ok_wrong d18 T c_pi
  have c_fu : Cl P w K mg base CX0 5 "_law_full" (sp_full C) := ok_full d19 T c_mk c_do c_dr c_wo
  exact ok_law F T c_di c_dr c_mo c_mk c_do c_wr c_pl c_is c_rl c_de c_dn c_rp c_fu c_log
theorem all_mk {l : PySem.W.OpenLaw} {w : World} {K : PySem.W.Frag} {h : Heap} {mg : Str → Option Value} {fa : Addr} (X : K.In h) (G : h.Ns mainGlobals mg) (hfa : mg "law" = some (.ref fa))
    {C Cb CL Cn Cs fI dl cda cc : Addr}
    {f0 : Addr} {od0 an0 : Option Addr} {sl0 : Array (Option Value)} {oc0 kV0 dc0 pm0 cd0 ct0 : Value}
    {f1 : Addr} {od1 an1 : Option Addr} {sl1 : Array (Option Value)} {oc1 kV1 dc1 pm1 cd1 ct1 : Value}
    {f2 : Addr} {od2 an2 : Option Addr} {sl2 : Array (Option Value)} {oc2 kV2 dc2 pm2 cd2 ct2 : Value}
    {f3 : Addr} {od3 an3 : Option Addr} {sl3 : Array (Option Value)} {oc3 kV3 dc3 pm3 cd3 ct3 : Value}
    {f4 : Addr} {od4 an4 : Option Addr} {sl4 : Array (Option Value)} {oc4 kV4 dc4 pm4 cd4 ct4 : Value}
    {f5 : Addr} {od5 an5 : Option Addr} {sl5 : Array (Option Value)} {oc5 kV5 dc5 pm5 cd5 ct5 : Value}
    {f6 : Addr} {od6 an6 : Option Addr} {sl6 : Array (Option Value)} {oc6 kV6 dc6 pm6 cd6 ct6 : Value}
    {f7 : Addr} {od7 an7 : Option Addr} {sl7 : Array (Option Value)} {oc7 kV7 dc7 pm7 cd7 ct7 : Value}
    {f8 : Addr} {od8 an8 : Option Addr} {sl8 : Array (Option Value)} {oc8 kV8 dc8 pm8 cd8 ct8 : Value}
    {f9 : Addr} {od9 an9 : Option Addr} {sl9 : Array (Option Value)} {oc9 kV9 dc9 pm9 cd9 ct9 : Value}
    {f10 : Addr} {od10 an10 : Option Addr} {sl10 : Array (Option Value)} {oc10 kV10 dc10 pm10 cd10 ct10 : Value}
    {f11 : Addr} {od11 an11 : Option Addr} {sl11 : Array (Option Value)} {oc11 kV11 dc11 pm11 cd11 ct11 : Value}
    {f12 : Addr} {od12 an12 : Option Addr} {sl12 : Array (Option Value)} {oc12 kV12 dc12 pm12 cd12 ct12 : Value}
    {f13 : Addr} {od13 an13 : Option Addr} {sl13 : Array (Option Value)} {oc13 kV13 dc13 pm13 cd13 ct13 : Value}
    {f14 : Addr} {od14 an14 : Option Addr} {sl14 : Array (Option Value)} {oc14 kV14 dc14 pm14 cd14 ct14 : Value}
    {f15 : Addr} {od15 an15 : Option Addr} {sl15 : Array (Option Value)} {oc15 kV15 dc15 pm15 cd15 ct15 : Value}
    {f16 : Addr} {od16 an16 : Option Addr} {sl16 : Array (Option Value)} {oc16 kV16 dc16 pm16 cd16 ct16 : Value}
    {f17 : Addr} {od17 an17 : Option Addr} {sl17 : Array (Option Value)} {oc17 kV17 dc17 pm17 cd17 ct17 : Value}
    {f18 : Addr} {od18 an18 : Option Addr} {sl18 : Array (Option Value)} {oc18 kV18 dc18 pm18 cd18 ct18 : Value}
    {f19 : Addr} {od19 an19 : Option Addr} {sl19 : Array (Option Value)} {oc19 kV19 dc19 pm19 cd19 ct19 : Value}
    {f20 : Addr} {od20 an20 : Option Addr} {sl20 : Array (Option Value)} {oc20 kV20 dc20 pm20 cd20 ct20 : Value}
    {f100 : Addr} {od100 an100 : Option Addr} {sl100 : Array (Option Value)} {oc100 kV100 dc100 pm100 cd100 ct100 : Value}
    {f101 : Addr} {od101 an101 : Option Addr} {sl101 : Array (Option Value)} {oc101 kV101 dc101 pm101 cd101 ct101 : Value}
    {f102 : Addr} {od102 an102 : Option Addr} {sl102 : Array (Option Value)} {oc102 kV102 dc102 pm102 cd102 ct102 : Value}
    {f103 : Addr} {od103 an103 : Option Addr} {sl103 : Array (Option Value)} {oc103 kV103 dc103 pm103 cd103 ct103 : Value}
    {f104 : Addr} {od104 an104 : Option Addr} {sl104 : Array (Option Value)} {oc104 kV104 dc104 pm104 cd104 ct104 : Value}
    {f105 : Addr} {od105 an105 : Option Addr} {sl105 : Array (Option Value)} {oc105 kV105 dc105 pm105 cd105 ct105 : Value}
    {f106 : Addr} {od106 an106 : Option Addr} {sl106 : Array (Option Value)} {oc106 kV106 dc106 pm106 cd106 ct106 : Value}
    {f107 : Addr} {od107 an107 : Option Addr} {sl107 : Array (Option Value)} {oc107 kV107 dc107 pm107 cd107 ct107 : Value}
    {f108 : Addr} {od108 an108 : Option Addr} {sl108 : Array (Option Value)} {oc108 kV108 dc108 pm108 cd108 ct108 : Value}
    {f109 : Addr} {od109 an109 : Option Addr} {sl109 : Array (Option Value)} {oc109 kV109 dc109 pm109 cd109 ct109 : Value}
    {f110 : Addr} {od110 an110 : Option Addr} {sl110 : Array (Option Value)} {oc110 kV110 dc110 pm110 cd110 ct110 : Value}
    {u_LETTERS : Value}
    {u_MOST_MARKS : Value}
    {u_MOST_READINGS : Value}
    {u_MOST_VALUE : Value}
    {u_MOST_BOUND : Value}
    {u_MOST_ENTRIES : Value}
    {es : Array DictEntry} {nD : Nat}
    {w_mark : Value}
    {w_read : Value}
    {w_drop : Value}
    {w_bound : Value}
    {nm q : Str} {N : Addr} {bs bm : List Value} {sn : List Str} {sub : List Value} {ab : Bool} {col : Option Bool} {dd : Option Addr} {k0_ k1_ k2_ k3_ k5_ : Option Value}
    {oc_ ct_ dc_ pm_ : Value} {od_ an_ : Option Addr} {sl_ : Array (Option Value)} {cl_ : Value} {cld_ : Option Addr} {csl_ : Array (Option Value)} {ccl_ : Value} {cdd_ : Option Addr} {vs_ : Array Value} {ccs_ : Array (Option Value)} {file : Str} {tf : Tok}
    {nm2 q2 : Str} {N2 : Addr} {bs2 bm2 : List Value} {sn2 : List Str} {sub2 : List Value} {ab2 : Bool} {col2 : Option Bool} {dd2 : Option Addr} {h0_ h1_ h2_ h3_ h5_ : Option Value} {hc2 : Bool} {nw2 : String}
    (gDesk : PySem.W.nsIn K mainGlobals "Desk" = some (some (.ref C)))
    (gBe : PySem.W.nsIn K mainGlobals "BadEntry" = some (some (.ref Cb)))
    (gLe : PySem.W.nsIn K mainGlobals "LevelError" = some (some (.ref CL)))
    (gBn : PySem.W.nsIn K mainGlobals "BadNet" = some (some (.ref Cn)))
    (gBs : PySem.W.nsIn K mainGlobals "BadState" = some (some (.ref Cs)))
    (a0 : PySem.W.nsIn K mainGlobals "reached" = some (some (.ref f0)))
    (l0 : K.lookup f0 = some ⟨oc0, od0, .func (PySem.W.fnOf "reached" "reached" (defArgs s_reached) (defBody s_reached) (defScope s_reached) .none kV0 dc0 pm0 an0 cd0 ct0), sl0⟩)
    (c0 : PySem.W.codeIn K cd0 "reached" = true)
    (k0 : PySem.W.keepIn K (.ref f0) = true)
    (a1 : PySem.W.nsIn K mainGlobals "is_integer" = some (some (.ref f1)))
    (l1 : K.lookup f1 = some ⟨oc1, od1, .func (PySem.W.fnOf "is_integer" "is_integer" (defArgs s_is_integer) (defBody s_is_integer) (defScope s_is_integer) .none kV1 dc1 pm1 an1 cd1 ct1), sl1⟩)
    (c1 : PySem.W.codeIn K cd1 "is_integer" = true)
    (k1 : PySem.W.keepIn K (.ref f1) = true)
    (a2 : PySem.W.nsIn K mainGlobals "is_name" = some (some (.ref f2)))
    (l2 : K.lookup f2 = some ⟨oc2, od2, .func (PySem.W.fnOf "is_name" "is_name" (defArgs s_is_name) (defBody s_is_name) (defScope s_is_name) .none kV2 dc2 pm2 an2 cd2 ct2), sl2⟩)
    (c2 : PySem.W.codeIn K cd2 "is_name" = true)
    (k2 : PySem.W.keepIn K (.ref f2) = true)
    (a3 : PySem.W.nsIn K mainGlobals "is_shaped" = some (some (.ref f3)))
    (l3 : K.lookup f3 = some ⟨oc3, od3, .func (PySem.W.fnOf "is_shaped" "is_shaped" (defArgs s_is_shaped) (defBody s_is_shaped) (defScope s_is_shaped) .none kV3 dc3 pm3 an3 cd3 ct3), sl3⟩)
    (c3 : PySem.W.codeIn K cd3 "is_shaped" = true)
    (k3 : PySem.W.keepIn K (.ref f3) = true)
    (a4 : PySem.W.nsIn K mainGlobals "replay" = some (some (.ref f4)))
    (l4 : K.lookup f4 = some ⟨oc4, od4, .func (PySem.W.fnOf "replay" "replay" (defArgs s_replay) (defBody s_replay) (defScope s_replay) .none kV4 dc4 pm4 an4 cd4 ct4), sl4⟩)
    (c4 : PySem.W.codeIn K cd4 "replay" = true)
    (k4 : PySem.W.keepIn K (.ref f4) = true)
    (a5 : PySem.W.nsIn K mainGlobals "_law_cell" = some (some (.ref f5)))
    (l5 : K.lookup f5 = some ⟨oc5, od5, .func (PySem.W.fnOf "_law_cell" "_law_cell" (defArgs s_l_cell) (defBody s_l_cell) (defScope s_l_cell) .none kV5 dc5 pm5 an5 cd5 ct5), sl5⟩)
    (c5 : PySem.W.codeIn K cd5 "_law_cell" = true)
    (k5 : PySem.W.keepIn K (.ref f5) = true)
    (a6 : PySem.W.nsIn K mainGlobals "_law_digits" = some (some (.ref f6)))
    (l6 : K.lookup f6 = some ⟨oc6, od6, .func (PySem.W.fnOf "_law_digits" "_law_digits" (defArgs s_l_digits) (defBody s_l_digits) (defScope s_l_digits) .none kV6 dc6 pm6 an6 cd6 ct6), sl6⟩)
    (c6 : PySem.W.codeIn K cd6 "_law_digits" = true)
    (k6 : PySem.W.keepIn K (.ref f6) = true)
    (a7 : PySem.W.nsIn K mainGlobals "_law_draw" = some (some (.ref f7)))
    (l7 : K.lookup f7 = some ⟨oc7, od7, .func (PySem.W.fnOf "_law_draw" "_law_draw" (defArgs s_l_draw) (defBody s_l_draw) (defScope s_l_draw) .none kV7 dc7 pm7 an7 cd7 ct7), sl7⟩)
    (c7 : PySem.W.codeIn K cd7 "_law_draw" = true)
    (k7 : PySem.W.keepIn K (.ref f7) = true)
    (a8 : PySem.W.nsIn K mainGlobals "_law_pick" = some (some (.ref f8)))
    (l8 : K.lookup f8 = some ⟨oc8, od8, .func (PySem.W.fnOf "_law_pick" "_law_pick" (defArgs s_l_pick) (defBody s_l_pick) (defScope s_l_pick) .none kV8 dc8 pm8 an8 cd8 ct8), sl8⟩)
    (c8 : PySem.W.codeIn K cd8 "_law_pick" = true)
    (k8 : PySem.W.keepIn K (.ref f8) = true)
    (a9 : PySem.W.nsIn K mainGlobals "_law_word" = some (some (.ref f9)))
    (l9 : K.lookup f9 = some ⟨oc9, od9, .func (PySem.W.fnOf "_law_word" "_law_word" (defArgs s_l_word) (defBody s_l_word) (defScope s_l_word) .none kV9 dc9 pm9 an9 cd9 ct9), sl9⟩)
    (c9 : PySem.W.codeIn K cd9 "_law_word" = true)
    (k9 : PySem.W.keepIn K (.ref f9) = true)
    (a10 : PySem.W.nsIn K mainGlobals "_law_deed" = some (some (.ref f10)))
    (l10 : K.lookup f10 = some ⟨oc10, od10, .func (PySem.W.fnOf "_law_deed" "_law_deed" (defArgs s_l_deed) (defBody s_l_deed) (defScope s_l_deed) .none kV10 dc10 pm10 an10 cd10 ct10), sl10⟩)
    (c10 : PySem.W.codeIn K cd10 "_law_deed" = true)
    (k10 : PySem.W.keepIn K (.ref f10) = true)
    (a11 : PySem.W.nsIn K mainGlobals "_law_done" = some (some (.ref f11)))
    (l11 : K.lookup f11 = some ⟨oc11, od11, .func (PySem.W.fnOf "_law_done" "_law_done" (defArgs s_l_done) (defBody s_l_done) (defScope s_l_done) .none kV11 dc11 pm11 an11 cd11 ct11), sl11⟩)
    (c11 : PySem.W.codeIn K cd11 "_law_done" = true)
    (k11 : PySem.W.keepIn K (.ref f11) = true)
    (a12 : PySem.W.nsIn K mainGlobals "_law_net_of" = some (some (.ref f12)))
    (l12 : K.lookup f12 = some ⟨oc12, od12, .func (PySem.W.fnOf "_law_net_of" "_law_net_of" (defArgs s_l_net_of) (defBody s_l_net_of) (defScope s_l_net_of) .none kV12 dc12 pm12 an12 cd12 ct12), sl12⟩)
    (c12 : PySem.W.codeIn K cd12 "_law_net_of" = true)
    (k12 : PySem.W.keepIn K (.ref f12) = true)
    (a13 : PySem.W.nsIn K mainGlobals "_law_parts" = some (some (.ref f13)))
    (l13 : K.lookup f13 = some ⟨oc13, od13, .func (PySem.W.fnOf "_law_parts" "_law_parts" (defArgs s_l_parts) (defBody s_l_parts) (defScope s_l_parts) .none kV13 dc13 pm13 an13 cd13 ct13), sl13⟩)
    (c13 : PySem.W.codeIn K cd13 "_law_parts" = true)
    (k13 : PySem.W.keepIn K (.ref f13) = true)
    (a14 : PySem.W.nsIn K mainGlobals "_law_model" = some (some (.ref f14)))
    (l14 : K.lookup f14 = some ⟨oc14, od14, .func (PySem.W.fnOf "_law_model" "_law_model" (defArgs s_l_model) (defBody s_l_model) (defScope s_l_model) .none kV14 dc14 pm14 an14 cd14 ct14), sl14⟩)
    (c14 : PySem.W.codeIn K cd14 "_law_model" = true)
    (k14 : PySem.W.keepIn K (.ref f14) = true)
    (a15 : PySem.W.nsIn K mainGlobals "_law_is_it" = some (some (.ref f15)))
    (l15 : K.lookup f15 = some ⟨oc15, od15, .func (PySem.W.fnOf "_law_is_it" "_law_is_it" (defArgs s_l_is_it) (defBody s_l_is_it) (defScope s_l_is_it) .none kV15 dc15 pm15 an15 cd15 ct15), sl15⟩)
    (c15 : PySem.W.codeIn K cd15 "_law_is_it" = true)
    (k15 : PySem.W.keepIn K (.ref f15) = true)
    (a16 : PySem.W.nsIn K mainGlobals "_law_place" = some (some (.ref f16)))
    (l16 : K.lookup f16 = some ⟨oc16, od16, .func (PySem.W.fnOf "_law_place" "_law_place" (defArgs s_l_place) (defBody s_l_place) (defScope s_l_place) .none kV16 dc16 pm16 an16 cd16 ct16), sl16⟩)
    (c16 : PySem.W.codeIn K cd16 "_law_place" = true)
    (k16 : PySem.W.keepIn K (.ref f16) = true)
    (a17 : PySem.W.nsIn K mainGlobals "_law_replayed" = some (some (.ref f17)))
    (l17 : K.lookup f17 = some ⟨oc17, od17, .func (PySem.W.fnOf "_law_replayed" "_law_replayed" (defArgs s_l_replayed) (defBody s_l_replayed) (defScope s_l_replayed) .none kV17 dc17 pm17 an17 cd17 ct17), sl17⟩)
    (c17 : PySem.W.codeIn K cd17 "_law_replayed" = true)
    (k17 : PySem.W.keepIn K (.ref f17) = true)
    (a18 : PySem.W.nsIn K mainGlobals "_law_wrong" = some (some (.ref f18)))
    (l18 : K.lookup f18 = some ⟨oc18, od18, .func (PySem.W.fnOf "_law_wrong" "_law_wrong" (defArgs s_l_wrong) (defBody s_l_wrong) (defScope s_l_wrong) .none kV18 dc18 pm18 an18 cd18 ct18), sl18⟩)
    (c18 : PySem.W.codeIn K cd18 "_law_wrong" = true)
    (k18 : PySem.W.keepIn K (.ref f18) = true)
    (a19 : PySem.W.nsIn K mainGlobals "_law_full" = some (some (.ref f19)))
    (l19 : K.lookup f19 = some ⟨oc19, od19, .func (PySem.W.fnOf "_law_full" "_law_full" (defArgs s_l_full) (defBody s_l_full) (defScope s_l_full) .none kV19 dc19 pm19 an19 cd19 ct19), sl19⟩)
    (c19 : PySem.W.codeIn K cd19 "_law_full" = true)
    (k19 : PySem.W.keepIn K (.ref f19) = true)
    (a20 : PySem.W.nsIn K mainGlobals "law" = some (some (.ref f20)))
    (l20 : K.lookup f20 = some ⟨oc20, od20, .func (PySem.W.fnOf "law" "law" (defArgs s_law) (defBody s_law) (defScope s_law) .none kV20 dc20 pm20 an20 cd20 ct20), sl20⟩)
    (c20 : PySem.W.codeIn K cd20 "law" = true)
    (k20 : PySem.W.keepIn K (.ref f20) = true)
    (a100 : PySem.W.findIn K (.ref C) "__init__" = some (some (.ref f100)))
    (i100 : PySem.W.isFn K (.ref f100) = true)
    (l100 : K.lookup f100 = some ⟨oc100, od100, .func (PySem.W.fnOf "__init__" "Desk.__init__" (defArgs s_init) (defBody s_init) (defScope s_init) .none kV100 dc100 pm100 an100 cd100 ct100), sl100⟩)
    (c100 : PySem.W.codeIn K cd100 "Desk.__init__" = true)
    (k100 : PySem.W.keepIn K (.ref f100) = true)
    (a101 : PySem.W.findIn K (.ref C) "can_mark" = some (some (.ref f101)))
    (i101 : PySem.W.isFn K (.ref f101) = true)
    (l101 : K.lookup f101 = some ⟨oc101, od101, .func (PySem.W.fnOf "can_mark" "Desk.can_mark" (defArgs s_can_mark) (defBody s_can_mark) (defScope s_can_mark) .none kV101 dc101 pm101 an101 cd101 ct101), sl101⟩)
    (c101 : PySem.W.codeIn K cd101 "Desk.can_mark" = true)
    (k101 : PySem.W.keepIn K (.ref f101) = true)
    (a102 : PySem.W.findIn K (.ref C) "can_read" = some (some (.ref f102)))
    (i102 : PySem.W.isFn K (.ref f102) = true)
    (l102 : K.lookup f102 = some ⟨oc102, od102, .func (PySem.W.fnOf "can_read" "Desk.can_read" (defArgs s_can_read) (defBody s_can_read) (defScope s_can_read) .none kV102 dc102 pm102 an102 cd102 ct102), sl102⟩)
    (c102 : PySem.W.codeIn K cd102 "Desk.can_read" = true)
    (k102 : PySem.W.keepIn K (.ref f102) = true)
    (a103 : PySem.W.findIn K (.ref C) "can_do" = some (some (.ref f103)))
    (i103 : PySem.W.isFn K (.ref f103) = true)
    (l103 : K.lookup f103 = some ⟨oc103, od103, .func (PySem.W.fnOf "can_do" "Desk.can_do" (defArgs s_can_do) (defBody s_can_do) (defScope s_can_do) .none kV103 dc103 pm103 an103 cd103 ct103), sl103⟩)
    (c103 : PySem.W.codeIn K cd103 "Desk.can_do" = true)
    (k103 : PySem.W.keepIn K (.ref f103) = true)
    (a104 : PySem.W.findIn K (.ref C) "do" = some (some (.ref f104)))
    (i104 : PySem.W.isFn K (.ref f104) = true)
    (l104 : K.lookup f104 = some ⟨oc104, od104, .func (PySem.W.fnOf "do" "Desk.do" (defArgs s_do) (defBody s_do) (defScope s_do) .none kV104 dc104 pm104 an104 cd104 ct104), sl104⟩)
    (c104 : PySem.W.codeIn K cd104 "Desk.do" = true)
    (k104 : PySem.W.keepIn K (.ref f104) = true)
    (a105 : PySem.W.findIn K (.ref C) "log" = some (some (.ref f105)))
    (i105 : PySem.W.isFn K (.ref f105) = true)
    (l105 : K.lookup f105 = some ⟨oc105, od105, .func (PySem.W.fnOf "log" "Desk.log" (defArgs s_log) (defBody s_log) (defScope s_log) .none kV105 dc105 pm105 an105 cd105 ct105), sl105⟩)
    (c105 : PySem.W.codeIn K cd105 "Desk.log" = true)
    (k105 : PySem.W.keepIn K (.ref f105) = true)
    (a106 : PySem.W.findIn K (.ref C) "readings" = some (some (.ref f106)))
    (i106 : PySem.W.isFn K (.ref f106) = true)
    (l106 : K.lookup f106 = some ⟨oc106, od106, .func (PySem.W.fnOf "readings" "Desk.readings" (defArgs s_readings) (defBody s_readings) (defScope s_readings) .none kV106 dc106 pm106 an106 cd106 ct106), sl106⟩)
    (c106 : PySem.W.codeIn K cd106 "Desk.readings" = true)
    (k106 : PySem.W.keepIn K (.ref f106) = true)
    (a107 : PySem.W.findIn K (.ref C) "numbers" = some (some (.ref f107)))
    (i107 : PySem.W.isFn K (.ref f107) = true)
    (l107 : K.lookup f107 = some ⟨oc107, od107, .func (PySem.W.fnOf "numbers" "Desk.numbers" (defArgs s_numbers) (defBody s_numbers) (defScope s_numbers) .none kV107 dc107 pm107 an107 cd107 ct107), sl107⟩)
    (c107 : PySem.W.codeIn K cd107 "Desk.numbers" = true)
    (k107 : PySem.W.keepIn K (.ref f107) = true)
    (a108 : PySem.W.findIn K (.ref C) "net" = some (some (.ref f108)))
    (i108 : PySem.W.isFn K (.ref f108) = true)
    (l108 : K.lookup f108 = some ⟨oc108, od108, .func (PySem.W.fnOf "net" "Desk.net" (defArgs s_net) (defBody s_net) (defScope s_net) .none kV108 dc108 pm108 an108 cd108 ct108), sl108⟩)
    (c108 : PySem.W.codeIn K cd108 "Desk.net" = true)
    (k108 : PySem.W.keepIn K (.ref f108) = true)
    (a109 : PySem.W.findIn K (.ref C) "bound" = some (some (.ref f109)))
    (i109 : PySem.W.isFn K (.ref f109) = true)
    (l109 : K.lookup f109 = some ⟨oc109, od109, .func (PySem.W.fnOf "bound" "Desk.bound" (defArgs s_bound) (defBody s_bound) (defScope s_bound) .none kV109 dc109 pm109 an109 cd109 ct109), sl109⟩)
    (c109 : PySem.W.codeIn K cd109 "Desk.bound" = true)
    (k109 : PySem.W.keepIn K (.ref f109) = true)
    (a110 : PySem.W.findIn K (.ref C) "parts" = some (some (.ref f110)))
    (i110 : PySem.W.isFn K (.ref f110) = true)
    (l110 : K.lookup f110 = some ⟨oc110, od110, .func (PySem.W.fnOf "parts" "Desk.parts" (defArgs s_parts) (defBody s_parts) (defScope s_parts) .none kV110 dc110 pm110 an110 cd110 ct110), sl110⟩)
    (c110 : PySem.W.codeIn K cd110 "Desk.parts" = true)
    (k110 : PySem.W.keepIn K (.ref f110) = true)
    (pgC : PySem.W.plainGet K C Str.empty = true)
    (hdC : PySem.W.hasDictIn K C = true)
    (poC : PySem.W.plainOver K C = true)
    (saC : PySem.W.findIn K (.ref C) "__setattr__" = some (some (.builtin "object.__setattr__")))
    (mkC : PySem.W.makesIn K C = true)
    (kcC : PySem.W.keepIn K (.ref C) = true)
    (n_marks : PySem.W.findIn K (.ref C) "marks" = some none)
    (n_rows : PySem.W.findIn K (.ref C) "rows" = some none)
    (n_next : PySem.W.findIn K (.ref C) "next" = some none)
    (n_k : PySem.W.findIn K (.ref C) "k" = some none)
    (n_entries : PySem.W.findIn K (.ref C) "entries" = some none)
    (n_before : PySem.W.findIn K (.ref C) "before" = some none)
    (z_len : PySem.W.nsIn K mainGlobals "len" = some none)
    (z_isinstance : PySem.W.nsIn K mainGlobals "isinstance" = some none)
    (z_abs : PySem.W.nsIn K mainGlobals "abs" = some none)
    (z_all : PySem.W.nsIn K mainGlobals "all" = some none)
    (z_int : PySem.W.nsIn K mainGlobals "int" = some none)
    (z_str : PySem.W.nsIn K mainGlobals "str" = some none)
    (z_bool : PySem.W.nsIn K mainGlobals "bool" = some none)
    (z_tuple : PySem.W.nsIn K mainGlobals "tuple" = some none)
    (z_list : PySem.W.nsIn K mainGlobals "list" = some none)
    (z_range : PySem.W.nsIn K mainGlobals "range" = some none)
    (z_ValueError : PySem.W.nsIn K mainGlobals "ValueError" = some none)
    (z_super : PySem.W.nsIn K mainGlobals "super" = some none)
    (uLETTERS : PySem.W.nsIn K mainGlobals "LETTERS" = some (some u_LETTERS))
    (rLETTERS : RelV (.str letters) u_LETTERS)
    (uMOST_MARKS : PySem.W.nsIn K mainGlobals "MOST_MARKS" = some (some u_MOST_MARKS))
    (rMOST_MARKS : RelV (.int 16) u_MOST_MARKS)
    (uMOST_READINGS : PySem.W.nsIn K mainGlobals "MOST_READINGS" = some (some u_MOST_READINGS))
    (rMOST_READINGS : RelV (.int 80) u_MOST_READINGS)
    (uMOST_VALUE : PySem.W.nsIn K mainGlobals "MOST_VALUE" = some (some u_MOST_VALUE))
    (rMOST_VALUE : RelV (.int 1000000) u_MOST_VALUE)
    (uMOST_BOUND : PySem.W.nsIn K mainGlobals "MOST_BOUND" = some (some u_MOST_BOUND))
    (rMOST_BOUND : RelV (.int 20) u_MOST_BOUND)
    (uMOST_ENTRIES : PySem.W.nsIn K mainGlobals "MOST_ENTRIES" = some (some u_MOST_ENTRIES))
    (rMOST_ENTRIES : RelV (.int 1000) u_MOST_ENTRIES)
    (gL : PySem.W.nsIn K mainGlobals "LENGTHS" = some (some (.ref dl)))
    (xL : K.lookup dl = some ⟨.type "dict", none, .dict es nD, #[]⟩)
    (liL : PySem.W.KeysLit w.params es.toList)
    (loL : (dl == sysModules) = false)
    (q_mark : PySem.W.nsIn K dl "mark" = some (some w_mark))
    (p_mark : RelV (.int 2) w_mark)
    (q_read : PySem.W.nsIn K dl "read" = some (some w_read))
    (p_read : RelV (.int 4) w_read)
    (q_drop : PySem.W.nsIn K dl "drop" = some (some w_drop))
    (p_drop : RelV (.int 2) w_drop)
    (q_bound : PySem.W.nsIn K dl "bound" = some (some w_bound))
    (p_bound : RelV (.int 2) w_bound)
    (q_marks : PySem.W.nsIn K dl "marks" = some none)
    (xB : K.lookup Cb = some (PySem.excClassObj nm q Cb N bs bm true sn sub ab col dd k0_ k1_ k2_ k3_ k5_ "ValueError.__new__"))
    (rvB : PySem.HandSPX.refsVE bm = true)
    (xLv : K.lookup CL = some (PySem.excClassObj nm2 q2 CL N2 bs2 bm2 hc2 sn2 sub2 ab2 col2 dd2 h0_ h1_ h2_ h3_ h5_ nw2))
    (inL : PySem.W.findIn K (.ref CL) "__init__" = some (some (.builtin "ValueError.__init__")))
    (eqm : bm = .ref CL :: bm2)
    (saB : PySem.W.findIn K (.ref Cb) "__setattr__" = some (some (.builtin "object.__setattr__")))
    (gaB : PySem.W.findIn K (.ref Cb) "__getattribute__" = some (some (.builtin "BaseException.__getattribute__")))
    (ggB : PySem.W.findIn K (.ref Cb) "__getattr__" = some none)
    (noB : PySem.W.findIn K (.ref Cb) "place" = some none)
    (inB : PySem.W.findIn K (.ref Cb) "__init__" = some (some (.ref fI)))
    (tfB : PySem.W.typeIn K (.ref fI) = some (.type "function"))
    (kpB : PySem.W.keepIn K (.ref Cb) = true)
    (exB : PySem.W.subIn K (.ref Cb) (.type "BaseException") = some true)
    (veB : PySem.W.subIn K (.ref Cb) (.type "ValueError") = some true)
    (meB : PySem.W.mroIn K Cb (.ref Cb) = some true)
    (moB : PySem.W.mroIn K Cb (.type "object") = some true)
    (tyB : PySem.W.typeIn K (.ref Cb) = some (.type "type"))
    (hdB : PySem.W.hasDictIn K Cb = true)
    (opq : PySem.W.nsIn K cStatics "thirdparty.any" = some none)
    (ptop : (l.prog.main.scope.names.lookup ("super" : Str)).isSome = false)
    (fnB : K.lookup fI = some ⟨oc_, od_, .func (PySem.W.ksFn "__init__" "BadEntry.__init__" BE.iA BE.iB BE.iS .none .none dc_ pm_ an_ (.ref cda) ct_ cc), sl_⟩)
    (cdB : PySem.W.codeIn K (.ref cda) "BadEntry.__init__" = true)
    (ceB : K.lookup cc = some ⟨cl_, cld_, .cell (some (.ref Cb)), csl_⟩)
    (coB : K.lookup cda = some ⟨ccl_, cdd_, .fields vs_, ccs_⟩)
    (vsB : vs_[2]? = some (.str file tf))
    (fiB : ((l.prog.main.file : Str) == file) = true)
    (caB : PySem.W.findIn K (.ref Cb) "__class__" = some (some (.builtin "object.__class__")))
    (spB : PySem.W.specialIn K (.builtin "object.__class__") "__get__" = some (some (.builtin "getset_descriptor.__get__")))
    (tkB : PySem.W.takesIn K (.builtin "object.__class__") = some true)
    (sbB : PySem.W.subIn K (.ref Cb) (.ref Cb) = some true)
    (exL : PySem.W.subIn K (.ref CL) (.type "BaseException") = some true)
    (hdL : PySem.W.hasDictIn K CL = true)
    (tyL : PySem.W.typeIn K (.ref CL) = some (.type "type"))
    (sbL : PySem.W.subIn K (.ref Cb) (.ref CL) = some true)
    (exN : PySem.W.subIn K (.ref Cn) (.type "BaseException") = some true)
    (hdN : PySem.W.hasDictIn K Cn = true)
    (tyN : PySem.W.typeIn K (.ref Cn) = some (.type "type"))
    (sbN : PySem.W.subIn K (.ref Cb) (.ref Cn) = some false)
    (exS : PySem.W.subIn K (.ref Cs) (.type "BaseException") = some true)
    (hdS : PySem.W.hasDictIn K Cs = true)
    (tyS : PySem.W.typeIn K (.ref Cs) = some (.type "type"))
    (sbS : PySem.W.subIn K (.ref Cb) (.ref Cs) = some false)
    (neN : (Value.ref Cb == Value.ref Cn) = false)
    (neS : (Value.ref Cb == Value.ref Cs) = false)
    : ∃ fd : FuncData, (∀ (s : Shared) (u : Value), BindsTo s fd ⟨[u], []⟩ [("_law_script", u)]) ∧ ∀ base : Heap, K.In base → base.Ns mainGlobals mg → FnOk l.prog w K mg base CX0 7 fa fd ["_law_script"] (spLaw K) := by
  have e := hfa.symm.trans (PySem.W.mg_of X G a20)
  cases e
  have m : ∀ {x : Str} {v : Value}, PySem.W.nsIn K mainGlobals x = some (some v) → mg x = some v := fun h => PySem.W.mg_of X G h
  have z : ∀ {x : Str}, PySem.W.nsIn K mainGlobals x = some none → mg x = none := fun h => PySem.W.mg_none_of X G h
  have T : Txt K w mg C dl :=
    { len_ := z z_len, isinstance_ := z z_isinstance, abs_ := z z_abs, all_ := z z_all, int_ := z z_int, str_ := z z_str, bool_ := z z_bool, tuple_ := z z_tuple, list_ := z z_list, range := z z_range, ValueError_ := z z_ValueError, gLETTERS := ⟨_, m uLETTERS, rLETTERS⟩, gMOST_MARKS := ⟨_, m uMOST_MARKS, rMOST_MARKS⟩, gMOST_READINGS := ⟨_, m uMOST_READINGS, rMOST_READINGS⟩, gMOST_VALUE := ⟨_, m uMOST_VALUE, rMOST_VALUE⟩, gMOST_BOUND := ⟨_, m uMOST_BOUND, rMOST_BOUND⟩, gMOST_ENTRIES := ⟨_, m uMOST_ENTRIES, rMOST_ENTRIES⟩, gLENGTHS := ⟨_, m gL, rfl⟩, kd := ⟨es, nD, ⟨xL, liL, loL⟩⟩, kmark := ⟨_, q_mark, p_mark⟩, kread := ⟨_, q_read, p_read⟩, kdrop := ⟨_, q_drop, p_drop⟩, kbound := ⟨_, q_bound, p_bound⟩, kmarks := q_marks, cl := ⟨pgC, hdC, poC, saC⟩, gDesk := m gDesk, nmarks := n_marks, nrows := n_rows, nnext := n_next, nk := n_k, nentries := n_entries, nbefore := n_before }
  have alB : PySem.W.alongIn K "__init__" bm = some (some (.builtin "ValueError.__init__")) := by
    rw [eqm]
    have h : (match K.lookup CL with | some ⟨_, _, .cls cd, _⟩ => PySem.W.alongIn K "__init__" cd.mro | _ => none) = some (some (Value.builtin "ValueError.__init__")) := inL
    rw [xLv] at h
    exact h
  have TB : BE.BeTxt l.prog K mg Cb fI :=
    { gC := m gBe, cls := ⟨nm, q, N, bs, bm, sn, sub, ab, col, dd, k0_, k1_, k2_, k3_, k5_, xB, rvB, alB⟩, sa := saB, ga := gaB, gg := ggB, noN := noB, iC := inB, tC := tfB, kC := kpB, exC := exB, veC := veB, meC := meB, tyC := tyB, hdC := hdB, sup := z z_super, opq := opq, ptop := ptop,
      fn := ⟨oc_, od_, dc_, pm_, an_, ct_, sl_, cda, cc, fnB, cdB, ⟨cl_, cld_, csl_, ceB⟩, ccl_, cdd_, vs_, ccs_, file, tf, coB, vsB, fiB⟩ }
  have TE : ErrTxt K mg Cb CL Cn Cs :=
    { gLevelError := m gLe, gBadNet := m gBn, gBadState := m gBs, gBadEntry := m gBe, teL := PySem.W.exm_ref exL hdL tyL sbL, teB := PySem.W.exm_ref exB hdB tyB sbB, kN := kit_ref neN hdN tyN sbN, kS := kit_ref neS hdS tyS sbS, kB := kit_self, kV := kit_ve veB,
      xc := ⟨gaB, ggB, exB, hdB, caB, spB, tkB, moB⟩, xf := ⟨gaB, ggB, exB, hdB⟩, noN := noB }
  have F0 := fun_mk (st := s_reached) l0 c0 k0
  have F1 := fun_mk (st := s_is_integer) l1 c1 k1
  have F2 := fun_mk (st := s_is_name) l2 c2 k2
  have F3 := fun_mk (st := s_is_shaped) l3 c3 k3
  have F4 := fun_mk (st := s_replay) l4 c4 k4
  have F5 := fun_mk (st := s_l_cell) l5 c5 k5
  have F6 := fun_mk (st := s_l_digits) l6 c6 k6
  have F7 := fun_mk (st := s_l_draw) l7 c7 k7
  have F8 := fun_mk (st := s_l_pick) l8 c8 k8
  have F9 := fun_mk (st := s_l_word) l9 c9 k9
  have F10 := fun_mk (st := s_l_deed) l10 c10 k10
  have F11 := fun_mk (st := s_l_done) l11 c11 k11
  have F12 := fun_mk (st := s_l_net_of) l12 c12 k12
  have F13 := fun_mk (st := s_l_parts) l13 c13 k13
  have F14 := fun_mk (st := s_l_model) l14 c14 k14
  have F15 := fun_mk (st := s_l_is_it) l15 c15 k15
  have F16 := fun_mk (st := s_l_place) l16 c16 k16
  have F17 := fun_mk (st := s_l_replayed) l17 c17 k17
  have F18 := fun_mk (st := s_l_wrong) l18 c18 k18
  have F19 := fun_mk (st := s_l_full) l19 c19 k19
  have F20 := fun_mk (st := s_law) l20 c20 k20
  have F100 := fun_mk (st := s_init) l100 c100 k100
  have F101 := fun_mk (st := s_can_mark) l101 c101 k101
  have F102 := fun_mk (st := s_can_read) l102 c102 k102
  have F103 := fun_mk (st := s_can_do) l103 c103 k103
  have F104 := fun_mk (st := s_do) l104 c104 k104
  have F105 := fun_mk (st := s_log) l105 c105 k105
  have F106 := fun_mk (st := s_readings) l106 c106 k106
  have F107 := fun_mk (st := s_numbers) l107 c107 k107
  have F108 := fun_mk (st := s_net) l108 c108 k108
  have F109 := fun_mk (st := s_bound) l109 c109 k109
  have F110 := fun_mk (st := s_parts) l110 c110 k110
  exact ⟨_, fun s u => .of_eq rfl, fun base _ _ => law_ok T TB TE ⟨_, _, F0, m a0⟩ ⟨_, _, F1, m a1⟩ ⟨_, _, F2, m a2⟩ ⟨_, _, F3, m a3⟩ ⟨_, _, F4, m a4⟩ ⟨_, _, F5, m a5⟩ ⟨_, _, F6, m a6⟩ ⟨_, _, F7, m a7⟩ ⟨_, _, F8, m a8⟩ ⟨_, _, F9, m a9⟩ ⟨_, _, F10, m a10⟩ ⟨_, _, F11, m a11⟩ ⟨_, _, F12, m a12⟩ ⟨_, _, F13, m a13⟩ ⟨_, _, F14, m a14⟩ ⟨_, _, F15, m a15⟩ ⟨_, _, F16, m a16⟩ ⟨_, _, F17, m a17⟩ ⟨_, _, F18, m a18⟩ ⟨_, _, F19, m a19⟩ ⟨_, _, F101, ⟨a101, i101, k101⟩⟩ ⟨_, _, F102, ⟨a102, i102, k102⟩⟩ ⟨_, _, F103, ⟨a103, i103, k103⟩⟩ ⟨_, _, F104, ⟨a104, i104, k104⟩⟩ ⟨_, _, F105, ⟨a105, i105, k105⟩⟩ ⟨_, _, F106, ⟨a106, i106, k106⟩⟩ ⟨_, _, F107, ⟨a107, i107, k107⟩⟩ ⟨_, _, F108, ⟨a108, i108, k108⟩⟩ ⟨_, _, F109, ⟨a109, i109, k109⟩⟩ ⟨_, _, F110, ⟨a110, i110, k110⟩⟩ F100 ⟨mkC, a100, i100, kcC⟩ F20⟩
theorem walk {l : PySem.W.OpenLaw} {q : Program} {loose : List Str} {XP : (Str → Option Value) → Heap → Prop} {YP : World → Heap → Prop} {d : DefRec} {K : Params → PySem.W.Frag} (hn : l.most = some 63) (hdf : d.params.defaults = [])
    (hY : ∀ (w : World) (h : Heap), YP w h → (K w.params).In h)
    (F : ∀ (w : World) (mg : Str → Option Value) (fa : Addr) (h : Heap), (K w.params).In h → h.Ns mainGlobals mg → mg d.name = some (.ref fa) →
      ∃ fd : FuncData, (∀ (s : Shared) (u : Value), BindsTo s fd ⟨[u], []⟩ [("_law_script", u)]) ∧ ∀ base : Heap, (K w.params).In base → base.Ns mainGlobals mg → FnOk l.prog w (K w.params) mg base CX0 7 fa fd ["_law_script"] (spLaw (K w.params))) :
    PySem.W.WalkO q loose XP YP l.row.toRowW d [] (fun f vs => PySem.call f vs) :=
  L2.walk_of (n := 63) (k := 7) (x := "_law_script") (CX := fun _ => CX0) (sp := fun w => spLaw (K w.params)) hn (by decide) hdf ⟨rfl, by decide, by decide⟩ hY F (fun _ _ a ns hl _ hS => ⟨a, ns, rfl, hS, hl, fun _ => rfl⟩) fun _ _ _ _ _ z => z
end K39
end

section
set_option Elab.async false
set_option linter.all false
open PySem PySem.W PyProof.Rows
set_option maxRecDepth 100000 in
set_option maxHeartbeats 0 in
theorem PySem.Challenge.cw_truelevels_k39_desk_refuses_holds : PySem.Challenge.rw_truelevels_k39_desk_refuses.Holds := by
  w_on; o_law; k_head; (case hw => w_witness2)
  k_fill
  refine K39.walk (l := PySem.Challenge.rw_truelevels_k39_desk_refuses) rfl rfl (fun w h Y => PySem.W.kIn_of Y) ?F
  case F =>
    intro w mg fa h KX G hmg
    refine' K39.all_mk KX G hmg ?gDesk ?gBe ?gLe ?gBn ?gBs ?a0 ?l0 ?c0 ?k0 ?a1 ?l1 ?c1 ?k1 ?a2 ?l2 ?c2 ?k2 ?a3 ?l3 ?c3 ?k3 ?a4 ?l4 ?c4 ?k4 ?a5 ?l5 ?c5 ?k5 ?a6 ?l6 ?c6 ?k6 ?a7 ?l7 ?c7 ?k7 ?a8 ?l8 ?c8 ?k8 ?a9 ?l9 ?c9 ?k9 ?a10 ?l10 ?c10 ?k10 ?a11 ?l11 ?c11 ?k11 ?a12 ?l12 ?c12 ?k12 ?a13 ?l13 ?c13 ?k13 ?a14 ?l14 ?c14 ?k14 ?a15 ?l15 ?c15 ?k15 ?a16 ?l16 ?c16 ?k16 ?a17 ?l17 ?c17 ?k17 ?a18 ?l18 ?c18 ?k18 ?a19 ?l19 ?c19 ?k19 ?a20 ?l20 ?c20 ?k20 ?a100 ?i100 ?l100 ?c100 ?k100 ?a101 ?i101 ?l101 ?c101 ?k101 ?a102 ?i102 ?l102 ?c102 ?k102 ?a103 ?i103 ?l103 ?c103 ?k103 ?a104 ?i104 ?l104 ?c104 ?k104 ?a105 ?i105 ?l105 ?c105 ?k105 ?a106 ?i106 ?l106 ?c106 ?k106 ?a107 ?i107 ?l107 ?c107 ?k107 ?a108 ?i108 ?l108 ?c108 ?k108 ?a109 ?i109 ?l109 ?c109 ?k109 ?a110 ?i110 ?l110 ?c110 ?k110 ?pgC ?hdC ?poC ?saC ?mkC ?kcC ?n_marks ?n_rows ?n_next ?n_k ?n_entries ?n_before ?z_len ?z_isinstance ?z_abs ?z_all ?z_int ?z_str ?z_bool ?z_tuple ?z_list ?z_range ?z_ValueError ?z_super ?uLETTERS ?rLETTERS ?uMOST_MARKS ?rMOST_MARKS ?uMOST_READINGS ?rMOST_READINGS ?uMOST_VALUE ?rMOST_VALUE ?uMOST_BOUND ?rMOST_BOUND ?uMOST_ENTRIES ?rMOST_ENTRIES ?gL ?xL ?liL ?loL ?q_mark ?p_mark ?q_read ?p_read ?q_drop ?p_drop ?q_bound ?p_bound ?q_marks ?xB ?rvB ?xLv ?inL ?eqm ?saB ?gaB ?ggB ?noB ?inB ?tfB ?kpB ?exB ?veB ?meB ?moB ?tyB ?hdB ?opq ?ptop ?fnB ?cdB ?ceB ?coB ?vsB ?fiB ?caB ?spB ?tkB ?sbB ?exL ?hdL ?tyL ?sbL ?exN ?hdN ?tyN ?sbN ?exS ?hdS ?tyS ?sbS ?neN ?neS
    (case gDesk => k_is)
    (case gBe => k_is)
    (case gLe => k_is)
    (case gBn => k_is)
    (case gBs => k_is)
    (case a0 => k_is)
    (case l0 => k_is)
    (case c0 => k_is)
    (case k0 => k_is)
    (case a1 => k_is)
    (case l1 => k_is)
    (case c1 => k_is)
    (case k1 => k_is)
    (case a2 => k_is)
    (case l2 => k_is)
    (case c2 => k_is)
    (case k2 => k_is)
    (case a3 => k_is)
    (case l3 => k_is)
    (case c3 => k_is)
    (case k3 => k_is)
    (case a4 => k_is)
    (case l4 => k_is)
    (case c4 => k_is)
    (case k4 => k_is)
    (case a5 => k_is)
    (case l5 => k_is)
    (case c5 => k_is)
    (case k5 => k_is)
    (case a6 => k_is)
    (case l6 => k_is)
    (case c6 => k_is)
    (case k6 => k_is)
    (case a7 => k_is)
    (case l7 => k_is)
    (case c7 => k_is)
    (case k7 => k_is)
    (case a8 => k_is)
    (case l8 => k_is)
    (case c8 => k_is)
    (case k8 => k_is)
    (case a9 => k_is)
    (case l9 => k_is)
    (case c9 => k_is)
    (case k9 => k_is)
    (case a10 => k_is)
    (case l10 => k_is)
    (case c10 => k_is)
    (case k10 => k_is)
    (case a11 => k_is)
    (case l11 => k_is)
    (case c11 => k_is)
    (case k11 => k_is)
    (case a12 => k_is)
    (case l12 => k_is)
    (case c12 => k_is)
    (case k12 => k_is)
    (case a13 => k_is)
    (case l13 => k_is)
    (case c13 => k_is)
    (case k13 => k_is)
    (case a14 => k_is)
    (case l14 => k_is)
    (case c14 => k_is)
    (case k14 => k_is)
    (case a15 => k_is)
    (case l15 => k_is)
    (case c15 => k_is)
    (case k15 => k_is)
    (case a16 => k_is)
    (case l16 => k_is)
    (case c16 => k_is)
    (case k16 => k_is)
    (case a17 => k_is)
    (case l17 => k_is)
    (case c17 => k_is)
    (case k17 => k_is)
    (case a18 => k_is)
    (case l18 => k_is)
    (case c18 => k_is)
    (case k18 => k_is)
    (case a19 => k_is)
    (case l19 => k_is)
    (case c19 => k_is)
    (case k19 => k_is)
    (case a20 => k_is)
    (case l20 => k_is)
    (case c20 => k_is)
    (case k20 => k_is)
    (case a100 => k_is)
    (case i100 => k_is)
    (case l100 => k_is)
    (case c100 => k_is)
    (case k100 => k_is)
    (case a101 => k_is)
    (case i101 => k_is)
    (case l101 => k_is)
    (case c101 => k_is)
    (case k101 => k_is)
    (case a102 => k_is)
    (case i102 => k_is)
    (case l102 => k_is)
    (case c102 => k_is)
    (case k102 => k_is)
    (case a103 => k_is)
    (case i103 => k_is)
    (case l103 => k_is)
    (case c103 => k_is)
    (case k103 => k_is)
    (case a104 => k_is)
    (case i104 => k_is)
    (case l104 => k_is)
    (case c104 => k_is)
    (case k104 => k_is)
    (case a105 => k_is)
    (case i105 => k_is)
    (case l105 => k_is)
    (case c105 => k_is)
    (case k105 => k_is)
    (case a106 => k_is)
    (case i106 => k_is)
    (case l106 => k_is)
    (case c106 => k_is)
    (case k106 => k_is)
    (case a107 => k_is)
    (case i107 => k_is)
    (case l107 => k_is)
    (case c107 => k_is)
    (case k107 => k_is)
    (case a108 => k_is)
    (case i108 => k_is)
    (case l108 => k_is)
    (case c108 => k_is)
    (case k108 => k_is)
    (case a109 => k_is)
    (case i109 => k_is)
    (case l109 => k_is)
    (case c109 => k_is)
    (case k109 => k_is)
    (case a110 => k_is)
    (case i110 => k_is)
    (case l110 => k_is)
    (case c110 => k_is)
    (case k110 => k_is)
    (case pgC => k_is)
    (case hdC => k_is)
    (case poC => k_is)
    (case saC => k_is)
    (case mkC => k_is)
    (case kcC => k_is)
    (case n_marks => k_is)
    (case n_rows => k_is)
    (case n_next => k_is)
    (case n_k => k_is)
    (case n_entries => k_is)
    (case n_before => k_is)
    (case z_len => k_is)
    (case z_isinstance => k_is)
    (case z_abs => k_is)
    (case z_all => k_is)
    (case z_int => k_is)
    (case z_str => k_is)
    (case z_bool => k_is)
    (case z_tuple => k_is)
    (case z_list => k_is)
    (case z_range => k_is)
    (case z_ValueError => k_is)
    (case z_super => k_is)
    (case uLETTERS => k_is)
    (case rLETTERS => exact ⟨_, rfl⟩)
    (case uMOST_MARKS => k_is)
    (case rMOST_MARKS => exact ⟨_, rfl⟩)
    (case uMOST_READINGS => k_is)
    (case rMOST_READINGS => exact ⟨_, rfl⟩)
    (case uMOST_VALUE => k_is)
    (case rMOST_VALUE => exact ⟨_, rfl⟩)
    (case uMOST_BOUND => k_is)
    (case rMOST_BOUND => exact ⟨_, rfl⟩)
    (case uMOST_ENTRIES => k_is)
    (case rMOST_ENTRIES => exact ⟨_, rfl⟩)
    (case gL => k_is)
    (case xL => k_is)
    (case liL => exact ⟨⟨_, _, rfl, rfl⟩, ⟨_, _, rfl, rfl⟩, ⟨_, _, rfl, rfl⟩, ⟨_, _, rfl, rfl⟩, trivial⟩)
    (case loL => first | rfl | decide)
    (case q_mark => k_is)
    (case p_mark => exact ⟨_, rfl⟩)
    (case q_read => k_is)
    (case p_read => exact ⟨_, rfl⟩)
    (case q_drop => k_is)
    (case p_drop => exact ⟨_, rfl⟩)
    (case q_bound => k_is)
    (case p_bound => exact ⟨_, rfl⟩)
    (case q_marks => k_is)
    (case xB => k_is)
    (case rvB => decide +kernel)
    (case xLv => k_is)
    (case inL => k_is)
    (case eqm => rfl)
    (case saB => k_is)
    (case gaB => k_is)
    (case ggB => k_is)
    (case noB => k_is)
    (case inB => k_is)
    (case tfB => k_is)
    (case kpB => k_is)
    (case exB => k_is)
    (case veB => k_is)
    (case meB => k_is)
    (case moB => k_is)
    (case tyB => k_is)
    (case hdB => k_is)
    (case opq => k_is)
    (case ptop => decide +kernel)
    (case fnB => k_is)
    (case cdB => k_is)
    (case ceB => k_is)
    (case coB => k_is)
    (case vsB => rfl)
    (case fiB => decide +kernel)
    (case caB => k_is)
    (case spB => k_is)
    (case tkB => k_is)
    (case sbB => first | rfl | k_is)
    (case exL => k_is)
    (case hdL => k_is)
    (case tyL => k_is)
    (case sbL => k_is)
    (case exN => k_is)
    (case hdN => k_is)
    (case tyN => k_is)
    (case sbN => k_is)
    (case exS => k_is)
    (case hdS => k_is)
    (case tyS => k_is)
    (case sbS => k_is)
    (case neN => first | rfl | decide)
    (case neS => first | rfl | decide)
end
