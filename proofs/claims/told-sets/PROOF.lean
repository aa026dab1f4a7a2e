import PyProof.Rows.All
import Wide.All
import OpenK.AllK
import Wide.FinOn
import KE.SortData
import KE.KDictSum
import HandS.ForMost
import HandS.IsInst
import HandS.Flow
import HandS.Style
import HandS.Conv
import HandS.TupAny
import HandS.Deep
import HandS.DictComp
import HandS.SortInts
import KE.GoesMore
import KE.GoesComp
import PySem.Challenge.RW_kepttogether_k49_whole_told_sets
set_option Elab.async false
set_option linter.all false
set_option maxRecDepth 100000
set_option maxHeartbeats 4000000
/-! ## KtMath -/
section
set_option autoImplicit false
namespace Kt

/-! trees, their leaves -/
inductive Tr where
  | leaf (i : Int)
  | node (b : Bool) (cs : List Tr)
instance : Inhabited Tr := ⟨.node false []⟩
def Tr.isLeaf : Tr → Bool
  | .leaf _ => true
  | .node _ _ => false
mutual
def leaves : Tr → List Int
  | .leaf i => [i]
  | .node _ cs => leavesL cs
def leavesL : List Tr → List Int
  | [] => []
  | t :: ts => leaves t ++ leavesL ts
end
mutual
def parts : Tr → Nat
  | .leaf _ => 1
  | .node _ cs => partsL cs + 1
def partsL : List Tr → Nat
  | [] => 0
  | t :: ts => parts t + partsL ts
end
mutual
def Ok : Tr → Prop
  | .leaf _ => True
  | .node b cs => (bif b then 3 else 2) ≤ cs.length ∧ OkL cs
def OkL : List Tr → Prop
  | [] => True
  | t :: ts => Ok t ∧ OkL ts
end
mutual
def deep : Tr → Nat
  | .leaf _ => 0
  | .node _ cs => deepL cs + 1
def deepL : List Tr → Nat
  | [] => 0
  | t :: ts => max (deep t) (deepL ts)
end
theorem leavesL_append : ∀ xs ys : List Tr, leavesL (xs ++ ys) = leavesL xs ++ leavesL ys
  | [], _ => by simp [leavesL]
  | x :: xs, ys => by simp [leavesL, leavesL_append xs ys]
theorem leavesL_flat : ∀ xs : List Tr, leavesL xs = (xs.map leaves).flatten
  | [] => by simp [leavesL]
  | x :: xs => by simp [leavesL, leavesL_flat xs]
theorem OkL_iff : ∀ cs : List Tr, OkL cs ↔ ∀ t ∈ cs, Ok t
  | [] => by simp [OkL]
  | t :: ts => by simp [OkL, OkL_iff ts]
theorem deepL_le : ∀ {cs : List Tr} {t : Tr}, t ∈ cs → deep t ≤ deepL cs
  | c :: cs, t, h => by
    rw [deepL]
    rcases List.mem_cons.mp h with rfl | h
    · exact Nat.le_max_left _ _
    · exact Nat.le_trans (deepL_le h) (Nat.le_max_right _ _)
theorem mem_leavesL {cs : List Tr} {x : Int} : x ∈ leavesL cs ↔ ∃ t ∈ cs, x ∈ leaves t := by
  rw [leavesL_flat, List.mem_flatten]
  constructor
  · rintro ⟨l, hl, hx⟩
    obtain ⟨t, ht, rfl⟩ := List.mem_map.mp hl
    exact ⟨t, ht, hx⟩
  · rintro ⟨t, ht, hx⟩
    exact ⟨_, List.mem_map_of_mem ht, hx⟩
theorem leaves_sub {cs : List Tr} {t : Tr} {x : Int} (h : t ∈ cs) (hx : x ∈ leaves t) : x ∈ leavesL cs := mem_leavesL.mpr ⟨t, h, hx⟩
mutual
theorem leaves_ne : ∀ t : Tr, Ok t → leaves t ≠ []
  | .leaf i, _ => by simp [leaves]
  | .node b cs, h => by
    rw [Ok] at h
    rw [leaves]
    refine leavesL_ne cs h.2 ?_
    rintro rfl
    have := h.1
    cases b <;> simp at this
theorem leavesL_ne : ∀ cs : List Tr, OkL cs → cs ≠ [] → leavesL cs ≠ []
  | [], _, h => absurd rfl h
  | t :: ts, h, _ => by
    rw [OkL] at h
    rw [leavesL]
    intro e
    exact leaves_ne t h.1 (List.append_eq_nil_iff.mp e).1
end
mutual
theorem parts_le : ∀ t : Tr, Ok t → parts t + 1 ≤ 2 * (leaves t).length
  | .leaf i, _ => by simp [leaves, parts]
  | .node b cs, h => by
    rw [Ok] at h
    have := partsL_le cs h.2
    have h2 : 2 ≤ cs.length := by
      have := h.1
      cases b <;> simp at this <;> omega
    rw [leaves, parts]
    omega
theorem partsL_le : ∀ cs : List Tr, OkL cs → partsL cs + cs.length ≤ 2 * (leavesL cs).length
  | [], _ => by simp [partsL, leavesL]
  | t :: ts, h => by
    rw [OkL] at h
    have h1 := parts_le t h.1
    have h2 := partsL_le ts h.2
    rw [partsL, leavesL, List.length_append, List.length_cons]
    omega
end
mutual
theorem deep_lt : ∀ t : Tr, Ok t → deep t + 1 ≤ (leaves t).length
  | .leaf i, _ => by simp [leaves, deep]
  | .node b cs, h => by
    rw [Ok] at h
    have h1 := deepL_lt cs h.2
    have h2 : 2 ≤ cs.length := by
      have := h.1
      cases b <;> simp at this <;> omega
    rw [leaves, deep]
    omega
theorem deepL_lt : ∀ cs : List Tr, OkL cs → cs.length ≤ (leavesL cs).length ∧ deepL cs + cs.length ≤ (leavesL cs).length
  | [], _ => by simp [deepL, leavesL]
  | t :: ts, h => by
    rw [OkL] at h
    have h1 := deep_lt t h.1
    obtain ⟨h2, h3⟩ := deepL_lt ts h.2
    rw [deepL, leavesL, List.length_append, List.length_cons]
    omega
end

/-! the order of lists of ints -/
abbrev srt (l : List Int) : List Int := l.mergeSort (fun a b => decide (a ≤ b))
theorem srt_perm (l : List Int) : (srt l).Perm l := List.mergeSort_perm _ _
theorem srt_sorted (l : List Int) : (srt l).Pairwise (· ≤ ·) := by
  have h := List.pairwise_mergeSort (le := fun a b : Int => decide (a ≤ b)) (fun a b c h1 h2 => by simp at *; omega) (fun a b => by simp; omega) l
  exact h.imp fun h => by simpa using h
theorem srt_uniq {l m : List Int} (h : m.Perm l) (hs : m.Pairwise (· ≤ ·)) : m = srt l :=
  List.Perm.eq_of_pairwise (le := (· ≤ ·)) (fun a b _ _ h1 h2 => Int.le_antisymm h1 h2) hs (srt_sorted l) (h.trans (srt_perm l).symm)
theorem srt_eq {l m : List Int} (h : l.Perm m) : srt l = srt m := srt_uniq ((srt_perm l).trans h) (srt_sorted l)
theorem mem_srt {l : List Int} {x : Int} : x ∈ srt l ↔ x ∈ l := (srt_perm l).mem_iff
theorem length_srt (l : List Int) : (srt l).length = l.length := (srt_perm l).length_eq

abbrev srtT (l : List (List Int)) : List (List Int) := l.mergeSort (fun a b => decide (a ≤ b))
theorem srtT_perm (l : List (List Int)) : (srtT l).Perm l := List.mergeSort_perm _ _
theorem leT_trans {a b c : List Int} (h1 : a ≤ b) (h2 : b ≤ c) : a ≤ c := by
  rcases List.le_total a c with h | h
  · exact h
  · by_cases e : a < c
    · exact List.not_lt.mp fun q => List.lt_irrefl _ (List.lt_trans e q)
    · by_cases e1 : a < b
      · by_cases e2 : b < c
        · exact absurd (List.lt_trans e1 e2) e
        · have : b = c := List.le_antisymm h2 (List.not_lt.mp e2)
          rw [← this]; exact h1
      · have : a = b := List.le_antisymm h1 (List.not_lt.mp e1)
        rw [this]; exact h2
theorem srtT_sorted (l : List (List Int)) : (srtT l).Pairwise (· ≤ ·) := by
  have h := List.pairwise_mergeSort (le := fun a b : List Int => decide (a ≤ b)) (fun a b c h1 h2 => by
    have h1 := of_decide_eq_true h1
    have h2 := of_decide_eq_true h2
    exact decide_eq_true (leT_trans h1 h2)) (fun a b => by
    rcases List.le_total a b with h | h <;> simp [h]) l
  exact h.imp fun h => of_decide_eq_true h
theorem lt_le {a b : List Int} (h : a < b) : a ≤ b := List.not_lt.mp fun q => List.lt_irrefl _ (List.lt_trans h q)
theorem strict_of {l : List (List Int)} (h : l.Pairwise (· ≤ ·)) (n : l.Nodup) : l.Pairwise (· < ·) := by
  have := h.and n
  refine this.imp fun {a b} q => ?_
  by_cases e : a < b
  · exact e
  · exact absurd (List.le_antisymm q.1 (List.not_lt.mp e)) q.2
theorem sorted_ext {l m : List (List Int)} (hl : l.Pairwise (· < ·)) (hm : m.Pairwise (· < ·)) (h : ∀ x, x ∈ l ↔ x ∈ m) : l = m := by
  have nl : l.Nodup := hl.imp fun {a b} q e => by subst e; exact List.lt_irrefl _ q
  have nm : m.Nodup := hm.imp fun {a b} q e => by subst e; exact List.lt_irrefl _ q
  exact List.Perm.eq_of_pairwise (le := (· < ·)) (fun a b _ _ h1 h2 => absurd (List.lt_trans h1 h2) (List.lt_irrefl _)) hl hm ((List.perm_ext_iff_of_nodup nl nm).mpr h)

/-! what is told -/
inductive Told : Tr → List Int → Prop
  | child {b : Bool} {cs : List Tr} {d : Tr} (h : d ∈ cs) (hl : d.isLeaf = false) : Told (.node b cs) (srt (leaves d))
  | under {b : Bool} {cs : List Tr} {d : Tr} {c : List Int} (h : d ∈ cs) (hd : Told d c) : Told (.node b cs) c
  | pair {pre post : List Tr} {d e : Tr} : Told (.node true (pre ++ d :: e :: post)) (srt (leaves d ++ leaves e))

/-! the program's list -/
def contents (cs : List Tr) : List (List Int) := (cs.filter fun t => !t.isLeaf).map fun t => srt (leaves t)
def neigh : List Tr → List (List Int)
  | a :: b :: r => srt (leaves a ++ leaves b) :: neigh (b :: r)
  | _ => []
mutual
def toldBy : Tr → List (List Int)
  | .leaf _ => []
  | .node b cs => contents cs ++ (bif b then neigh cs else []) ++ toldByL cs
def toldByL : List Tr → List (List Int)
  | [] => []
  | t :: ts => toldBy t ++ toldByL ts
end
theorem mem_contents {cs : List Tr} {c : List Int} : c ∈ contents cs ↔ ∃ d ∈ cs, d.isLeaf = false ∧ c = srt (leaves d) := by
  unfold contents
  simp only [List.mem_map, List.mem_filter, Bool.not_eq_true']
  constructor
  · rintro ⟨d, ⟨h1, h2⟩, rfl⟩; exact ⟨d, h1, h2, rfl⟩
  · rintro ⟨d, h1, h2, rfl⟩; exact ⟨d, ⟨h1, h2⟩, rfl⟩
theorem mem_neigh : ∀ {cs : List Tr} {c : List Int}, c ∈ neigh cs ↔ ∃ pre d e post, cs = pre ++ d :: e :: post ∧ c = srt (leaves d ++ leaves e)
  | [], c => by simp [neigh]
  | [a], c => by
    simp only [neigh, List.not_mem_nil, false_iff]
    rintro ⟨pre, d, e, post, h, _⟩
    have := congrArg List.length h
    simp at this
    omega
  | a :: b :: r, c => by
    rw [neigh, List.mem_cons, mem_neigh (cs := b :: r)]
    constructor
    · rintro (rfl | ⟨pre, d, e, post, h, rfl⟩)
      · exact ⟨[], a, b, r, rfl, rfl⟩
      · exact ⟨a :: pre, d, e, post, by rw [h]; rfl, rfl⟩
    · rintro ⟨pre, d, e, post, h, rfl⟩
      cases pre with
      | nil =>
        simp only [List.nil_append, List.cons.injEq] at h
        obtain ⟨rfl, rfl, rfl⟩ := h
        exact .inl rfl
      | cons p pre =>
        simp only [List.cons_append, List.cons.injEq] at h
        exact .inr ⟨pre, d, e, post, h.2, rfl⟩
mutual
theorem mem_toldBy : ∀ {t : Tr} {c : List Int}, c ∈ toldBy t ↔ Told t c
  | .leaf i, c => by
    simp only [toldBy, List.not_mem_nil, false_iff]
    intro h; cases h
  | .node b cs, c => by
    rw [toldBy, List.mem_append, List.mem_append, mem_contents, mem_toldByL]
    constructor
    · rintro ((⟨d, h1, h2, rfl⟩ | h) | ⟨d, h1, h2⟩)
      · exact .child h1 h2
      · cases b with
        | false => simp at h
        | true =>
          simp only [cond_true] at h
          obtain ⟨pre, d, e, post, rfl, rfl⟩ := mem_neigh.mp h
          exact .pair
      · exact .under h1 h2
    · intro h
      cases h with
      | child h hl => exact .inl (.inl ⟨_, h, hl, rfl⟩)
      | under h hd => exact .inr ⟨_, h, hd⟩
      | pair => exact .inl (.inr (by simp only [cond_true]; exact mem_neigh.mpr ⟨_, _, _, _, rfl, rfl⟩))
theorem mem_toldByL : ∀ {ts : List Tr} {c : List Int}, c ∈ toldByL ts ↔ ∃ d ∈ ts, Told d c
  | [], c => by simp [toldByL]
  | t :: ts, c => by
    rw [toldByL, List.mem_append, mem_toldBy, mem_toldByL]
    simp
end
theorem toldByL_append : ∀ xs ys : List Tr, toldByL (xs ++ ys) = toldByL xs ++ toldByL ys
  | [], _ => by simp [toldByL]
  | x :: xs, ys => by simp [toldByL, toldByL_append xs ys]
theorem contents_len (cs : List Tr) : (contents cs).length ≤ cs.length := by
  unfold contents
  rw [List.length_map]
  exact List.length_filter_le _ _
theorem neigh_len : ∀ cs : List Tr, (neigh cs).length ≤ cs.length
  | [] => by simp [neigh]
  | [a] => by simp [neigh]
  | a :: b :: r => by
    have := neigh_len (b :: r)
    rw [neigh]
    simp only [List.length_cons] at *
    omega
mutual
theorem toldBy_len : ∀ t : Tr, (toldBy t).length + 2 ≤ 2 * parts t
  | .leaf i => by simp [toldBy, parts]
  | .node b cs => by
    have h1 := contents_len cs
    have h2 : (bif b then neigh cs else []).length ≤ cs.length := by
      cases b
      · simp
      · exact neigh_len cs
    have h3 := toldByL_len cs
    rw [toldBy, parts, List.length_append, List.length_append]
    omega
theorem toldByL_len : ∀ ts : List Tr, (toldByL ts).length + 2 * ts.length ≤ 2 * partsL ts
  | [] => by simp [toldByL, partsL]
  | t :: ts => by
    have h1 := toldBy_len t
    have h2 := toldByL_len ts
    rw [toldByL, partsL, List.length_append, List.length_cons]
    omega
end

/-! the law's list -/
def lawStep (b : Bool) (prev : Option Tr) (told : List (List Int)) (c : Tr) : List (List Int) :=
  told ++ (if c.isLeaf then [] else [srt (leaves c)]) ++ (match b, prev with
    | true, some p => [srt (leaves p ++ leaves c)]
    | _, _ => [])
mutual
def lawTold : Tr → List (List Int)
  | .leaf _ => []
  | .node b cs => lawToldL b none cs
def lawToldL (b : Bool) (prev : Option Tr) : List Tr → List (List Int)
  | [] => []
  | c :: r => lawStep b prev (lawTold c) c ++ lawToldL b (some c) r
end
def lastOr (prev : Option Tr) : List Tr → Option Tr
  | [] => prev
  | c :: r => lastOr (some c) r
theorem lawToldL_snoc (b : Bool) : ∀ (prev : Option Tr) (xs : List Tr) (c : Tr), lawToldL b prev (xs ++ [c]) = lawToldL b prev xs ++ lawStep b (lastOr prev xs) (lawTold c) c
  | prev, [], c => by simp [lawToldL, lastOr]
  | prev, x :: xs, c => by simp [lawToldL, lastOr, lawToldL_snoc b (some x) xs c]
theorem lastOr_take : ∀ (cs : List Tr) (prev : Option Tr) (i : Nat), i < cs.length → lastOr prev (cs.take (i + 1)) = cs[i]?
  | [], _, _, h => absurd h (by simp)
  | c :: cs, prev, 0, _ => by simp [lastOr]
  | c :: cs, prev, i + 1, h => by
    rw [List.take_succ_cons, lastOr, lastOr_take cs (some c) i (by simpa using h)]
    simp
mutual
theorem mem_lawTold : ∀ {t : Tr} {c : List Int}, c ∈ lawTold t ↔ Told t c
  | .leaf i, c => by
    simp only [lawTold, List.not_mem_nil, false_iff]
    intro h; cases h
  | .node b cs, c => by
    rw [lawTold, mem_lawToldL]
    constructor
    · rintro (⟨d, h, hl, rfl⟩ | ⟨d, h, hd⟩ | ⟨rfl, pre, d, e, post, h, rfl⟩ | ⟨_, p, d, r, h, _⟩)
      · exact .child h hl
      · exact .under h hd
      · subst h; exact .pair
      · cases h
    · intro h
      cases h with
      | child h hl => exact .inl ⟨_, h, hl, rfl⟩
      | under h hd => exact .inr (.inl ⟨_, h, hd⟩)
      | pair => exact .inr (.inr (.inl ⟨rfl, _, _, _, _, rfl, rfl⟩))
theorem mem_lawToldL : ∀ {b : Bool} {prev : Option Tr} {ts : List Tr} {c : List Int}, c ∈ lawToldL b prev ts ↔
    (∃ d ∈ ts, d.isLeaf = false ∧ c = srt (leaves d)) ∨ (∃ d ∈ ts, Told d c) ∨ (b = true ∧ ∃ pre d e post, ts = pre ++ d :: e :: post ∧ c = srt (leaves d ++ leaves e)) ∨ (b = true ∧ ∃ p d r, prev = some p ∧ ts = d :: r ∧ c = srt (leaves p ++ leaves d))
  | b, prev, [], c => by simp [lawToldL]
  | b, prev, t :: ts, c => by
    rw [lawToldL, List.mem_append, mem_lawToldL]
    unfold lawStep
    rw [List.mem_append, List.mem_append, mem_lawTold]
    constructor
    · rintro (((h | h) | h) | (⟨d, h, hl, rfl⟩ | ⟨d, h, hd⟩ | ⟨rfl, pre, d, e, post, rfl, rfl⟩ | ⟨rfl, p, d, r, h, rfl, rfl⟩))
      · exact .inr (.inl ⟨t, List.mem_cons_self, h⟩)
      · cases hl : t.isLeaf with
        | true => rw [hl] at h; simp at h
        | false =>
          rw [hl] at h
          simp at h
          exact .inl ⟨t, List.mem_cons_self, hl, h⟩
      · cases b with
        | false => simp at h
        | true =>
          cases prev with
          | none => simp at h
          | some p =>
            simp at h
            exact .inr (.inr (.inr ⟨rfl, p, t, ts, rfl, rfl, h⟩))
      · exact .inl ⟨d, List.mem_cons_of_mem _ h, hl, rfl⟩
      · exact .inr (.inl ⟨d, List.mem_cons_of_mem _ h, hd⟩)
      · exact .inr (.inr (.inl ⟨rfl, t :: pre, d, e, post, rfl, rfl⟩))
      · cases h
        exact .inr (.inr (.inl ⟨rfl, [], t, d, r, rfl, rfl⟩))
    · rintro (⟨d, h, hl, rfl⟩ | ⟨d, h, hd⟩ | ⟨rfl, pre, d, e, post, h, rfl⟩ | ⟨rfl, p, d, r, h1, h2, rfl⟩)
      · rcases List.mem_cons.mp h with rfl | h
        · exact .inl (.inl (.inr (by rw [hl]; simp)))
        · exact .inr (.inl ⟨d, h, hl, rfl⟩)
      · rcases List.mem_cons.mp h with rfl | h
        · exact .inl (.inl (.inl hd))
        · exact .inr (.inr (.inl ⟨d, h, hd⟩))
      · cases pre with
        | nil =>
          simp only [List.nil_append, List.cons.injEq] at h
          obtain ⟨rfl, rfl⟩ := h
          exact .inr (.inr (.inr (.inr ⟨rfl, t, e, post, rfl, rfl, rfl⟩)))
        | cons p pre =>
          simp only [List.cons_append, List.cons.injEq] at h
          exact .inr (.inr (.inr (.inl ⟨rfl, pre, d, e, post, h.2, rfl⟩)))
      · cases h1
        cases h2
        exact .inl (.inr (by simp))
end
theorem lawStep_len (b : Bool) (prev : Option Tr) (told : List (List Int)) (c : Tr) : (lawStep b prev told c).length ≤ told.length + 2 := by
  unfold lawStep
  rw [List.length_append, List.length_append]
  have h1 : (if c.isLeaf = true then ([] : List (List Int)) else [srt (leaves c)]).length ≤ 1 := by
    split <;> simp
  have h2 : (match b, prev with
    | true, some p => [srt (leaves p ++ leaves c)]
    | _, _ => ([] : List (List Int))).length ≤ 1 := by
    split <;> simp
  omega
mutual
theorem lawTold_len : ∀ t : Tr, (lawTold t).length + 2 ≤ 2 * parts t
  | .leaf i => by simp [lawTold, parts]
  | .node b cs => by
    have h3 := lawToldL_len b none cs
    rw [lawTold, parts]
    omega
theorem lawToldL_len (b : Bool) : ∀ (prev : Option Tr) (ts : List Tr), (lawToldL b prev ts).length ≤ 2 * partsL ts
  | _, [] => by simp [lawToldL, partsL]
  | prev, t :: ts => by
    have h1 := lawTold_len t
    have h2 := lawToldL_len b (some t) ts
    have h3 := lawStep_len b prev (lawTold t) t
    rw [lawToldL, partsL, List.length_append]
    omega
end
theorem told_ne {t : Tr} {c : List Int} (h : Told t c) (ok : Ok t) : c ≠ [] := by
  induction h with
  | @child b cs d h hl =>
    rw [Ok, OkL_iff] at ok
    intro e
    have := length_srt (leaves d)
    rw [e] at this
    exact leaves_ne d (ok.2 d h) (List.eq_nil_of_length_eq_zero this.symm)
  | under h hd ih =>
    rw [Ok, OkL_iff] at ok
    exact ih (ok.2 _ h)
  | @pair pre post d e =>
    rw [Ok, OkL_iff] at ok
    intro q
    have := length_srt (leaves d ++ leaves e)
    rw [q, List.length_append] at this
    exact leaves_ne d (ok.2 d (by simp)) (List.eq_nil_of_length_eq_zero (by simp at this; omega))
theorem told_mem {t : Tr} {c : List Int} (h : Told t c) : ∀ x ∈ c, x ∈ leaves t := by
  induction h with
  | @child b cs d h hl => intro x hx; rw [leaves]; exact leaves_sub h (mem_srt.mp hx)
  | under h hd ih => intro x hx; rw [leaves]; exact leaves_sub h (ih x hx)
  | @pair pre post d e =>
    intro x hx
    rw [leaves]
    rcases List.mem_append.mp (mem_srt.mp hx) with q | q
    · exact leaves_sub (t := d) (by simp) q
    · exact leaves_sub (t := e) (by simp) q
end Kt
/-! rows -/
namespace Kt
def rng (n : Nat) : List Int := (List.range n).map Int.ofNat
theorem rng_len (n : Nat) : (rng n).length = n := by simp [rng]
theorem mem_rng {n : Nat} {x : Int} : x ∈ rng n ↔ 0 ≤ x ∧ x < n := by
  unfold rng
  simp only [List.mem_map, List.mem_range]
  constructor
  · rintro ⟨a, h, rfl⟩
    exact ⟨Int.natCast_nonneg _, by show (a : Int) < n; omega⟩
  · rintro ⟨h1, h2⟩
    exact ⟨x.toNat, by omega, by show ((x.toNat : Nat) : Int) = x; omega⟩
theorem rng_get {n i : Nat} (h : i < n) : (rng n)[i]? = some (i : Int) := by
  unfold rng
  simp [h]
theorem rng_sorted (n : Nat) : (rng n).Pairwise (· < ·) := by
  unfold rng
  rw [List.pairwise_map]
  exact List.pairwise_lt_range.imp fun {a b} h => by show (a : Int) < b; omega
theorem rng_nodup (n : Nat) : (rng n).Nodup := (rng_sorted n).imp fun {a b} h e => by subst e; exact Int.lt_irrefl _ h

theorem perm_of_sub : ∀ {r s : List Int}, r.Nodup → (∀ x ∈ r, x ∈ s) → s.length ≤ r.length → r.Perm s
  | [], s, _, _, h => by
    rw [List.eq_nil_of_length_eq_zero (Nat.le_zero.mp h)]
  | x :: r, s, h1, h2, h3 => by
    have hx : x ∈ s := h2 x List.mem_cons_self
    obtain ⟨n1, n2⟩ := List.nodup_cons.mp h1
    refine List.Perm.trans (List.Perm.cons x (perm_of_sub (s := s.erase x) n2 (fun y hy => ?_) ?_)) (List.perm_cons_erase hx).symm
    · exact (List.mem_erase_of_ne (by rintro rfl; exact n1 hy)).mpr (h2 y (List.mem_cons_of_mem _ hy))
    · rw [List.length_erase_of_mem hx]
      simp only [List.length_cons] at h3
      omega
/-- the rows one longer -/
def longer (items : List Int) (rows : List (List Int)) : List (List Int) := rows.flatMap fun row => (items.filter fun x => !decide (x ∈ row)).map fun x => row ++ [x]
def ordN (items : List Int) : Nat → List (List Int)
  | 0 => [[]]
  | n + 1 => longer items (ordN items n)
def orders (items : List Int) : List (List Int) := ordN items items.length
theorem mem_longer {items : List Int} {rows : List (List Int)} {r : List Int} : r ∈ longer items rows ↔ ∃ row x, row ∈ rows ∧ x ∈ items ∧ x ∉ row ∧ r = row ++ [x] := by
  unfold longer
  simp only [List.mem_flatMap, List.mem_map, List.mem_filter, Bool.not_eq_true', decide_eq_false_iff_not]
  constructor
  · rintro ⟨row, h1, x, ⟨h2, h3⟩, rfl⟩; exact ⟨row, x, h1, h2, h3, rfl⟩
  · rintro ⟨row, x, h1, h2, h3, rfl⟩; exact ⟨row, h1, x, ⟨h2, h3⟩, rfl⟩
theorem mem_ordN {items : List Int} : ∀ {n : Nat} {r : List Int}, r ∈ ordN items n ↔ r.length = n ∧ r.Nodup ∧ ∀ x ∈ r, x ∈ items
  | 0, r => by
    rw [ordN, List.mem_singleton]
    constructor
    · rintro rfl; simp
    · rintro ⟨h, _⟩; exact List.eq_nil_of_length_eq_zero h
  | n + 1, r => by
    rw [ordN, mem_longer]
    constructor
    · rintro ⟨row, x, h1, h2, h3, rfl⟩
      obtain ⟨a, b, c⟩ := mem_ordN.mp h1
      refine ⟨by simp [a], ?_, fun y hy => ?_⟩
      · rw [List.nodup_append]
        refine ⟨b, by simp, fun y hy z hz e => ?_⟩
        rw [List.mem_singleton.mp hz] at e
        subst e
        exact h3 hy
      · rcases List.mem_append.mp hy with h | h
        · exact c y h
        · rw [List.mem_singleton.mp h]; exact h2
    · rintro ⟨h1, h2, h3⟩
      have hne : r ≠ [] := by rintro rfl; simp at h1
      have e := List.dropLast_concat_getLast hne
      refine ⟨r.dropLast, r.getLast hne, mem_ordN.mpr ⟨by simp [h1], ?_, fun x hx => h3 x (List.dropLast_subset _ hx)⟩, h3 _ (List.getLast_mem _), fun q => ?_, e.symm⟩
      · exact List.Pairwise.sublist (List.dropLast_sublist _) h2
      · rw [← e, List.nodup_append] at h2
        exact h2.2.2 _ q _ (List.mem_singleton.mpr rfl) rfl
theorem lt_app : ∀ {a b c d : List Int}, a.length = b.length → a < b → a ++ c < b ++ d
  | [], [], _, _, _, h => absurd h (List.lt_irrefl _)
  | x :: a, y :: b, c, d, hl, h => by
    rw [List.cons_append, List.cons_append]
    rw [List.cons_lt_cons_iff] at h ⊢
    rcases h with h | ⟨h1, h2⟩
    · exact .inl h
    · exact .inr ⟨h1, lt_app (by simpa using hl) h2⟩
theorem ordN_sorted {items : List Int} (hs : items.Pairwise (· < ·)) : ∀ n : Nat, (ordN items n).Pairwise (· < ·)
  | 0 => by simp [ordN]
  | n + 1 => by
    rw [ordN, longer, List.pairwise_flatMap]
    constructor
    · intro row _
      rw [List.pairwise_map]
      refine (hs.filter _).imp fun {x y} h => ?_
      exact List.append_left_lt (by rw [List.cons_lt_cons_iff]; exact .inl h)
    · have ih := ordN_sorted hs n
      refine List.Pairwise.imp_of_mem (fun {a b} ha hb h x hx y hy => ?_) ih
      obtain ⟨p, _, rfl⟩ := List.mem_map.mp hx
      obtain ⟨q, _, rfl⟩ := List.mem_map.mp hy
      exact lt_app ((mem_ordN.mp ha).1.trans (mem_ordN.mp hb).1.symm) h
theorem mem_orders {n : Nat} {r : List Int} : r ∈ orders (rng n) ↔ r.Perm (rng n) := by
  unfold orders
  rw [mem_ordN, rng_len]
  constructor
  · rintro ⟨h1, h2, h3⟩
    exact perm_of_sub h2 h3 (by rw [rng_len, h1]; exact Nat.le_refl _)
  · intro h
    exact ⟨by rw [h.length_eq, rng_len], h.nodup_iff.mpr (rng_nodup n), fun x hx => h.mem_iff.mp hx⟩
theorem orders_sorted (n : Nat) : (orders (rng n)).Pairwise (· < ·) := ordN_sorted (rng_sorted n) _
theorem orders_nodup (n : Nat) : (orders (rng n)).Nodup := (orders_sorted n).imp fun {a b} h e => by subst e; exact List.lt_irrefl _ h

/-- rows of several, one after another -/
def joinR (Rs : List (List (List Int))) : List (List Int) := Rs.foldl (fun acc R => acc.flatMap fun row => R.map fun part => row ++ part) [[]]
def placeOrds (b : Bool) (n : Nat) : List (List Int) := bif b then [rng n, (rng n).reverse] else orders (rng n)
mutual
def rows : Tr → List (List Int)
  | .leaf i => [[i]]
  | .node b cs => (placeOrds b cs.length).flatMap fun o => joinR (o.map fun k => (rowsL cs).getD k.toNat [])
def rowsL : List Tr → List (List (List Int))
  | [] => []
  | t :: ts => rows t :: rowsL ts
end
theorem rowsL_map : ∀ cs : List Tr, rowsL cs = cs.map rows
  | [] => by simp [rowsL]
  | c :: cs => by simp [rowsL, rowsL_map cs]
/-- a list of lists, item by item in these -/
inductive Pick : List (List Int) → List (List (List Int)) → Prop
  | nil : Pick [] []
  | cons {r : List Int} {R : List (List Int)} {rs : List (List Int)} {Rs : List (List (List Int))} (h : r ∈ R) (t : Pick rs Rs) : Pick (r :: rs) (R :: Rs)
theorem joinFrom {Rs : List (List (List Int))} : ∀ {acc : List (List Int)} {r : List Int}, r ∈ Rs.foldl (fun acc R => acc.flatMap fun row => R.map fun part => row ++ part) acc ↔ ∃ a rs, a ∈ acc ∧ Pick rs Rs ∧ r = a ++ rs.flatten := by
  induction Rs with
  | nil =>
    intro acc r
    rw [List.foldl_nil]
    constructor
    · intro h; exact ⟨r, [], h, .nil, by simp⟩
    · rintro ⟨a, rs, h, p, rfl⟩; cases p; simpa using h
  | cons R Rs ih =>
    intro acc r
    rw [List.foldl_cons, ih]
    constructor
    · rintro ⟨a, rs, h, p, rfl⟩
      obtain ⟨row, h1, h2⟩ := List.mem_flatMap.mp h
      obtain ⟨part, h3, rfl⟩ := List.mem_map.mp h2
      exact ⟨row, part :: rs, h1, .cons h3 p, by simp⟩
    · rintro ⟨a, rs, h, p, rfl⟩
      cases p with
      | @cons x _ rs _ h1 p =>
        exact ⟨a ++ x, rs, List.mem_flatMap.mpr ⟨a, h, List.mem_map.mpr ⟨x, h1, rfl⟩⟩, p, by simp⟩
theorem mem_joinR {Rs : List (List (List Int))} {r : List Int} : r ∈ joinR Rs ↔ ∃ rs, Pick rs Rs ∧ r = rs.flatten := by
  unfold joinR
  rw [joinFrom]
  constructor
  · rintro ⟨a, rs, h, p, rfl⟩
    rw [List.mem_singleton.mp h]
    exact ⟨rs, p, rfl⟩
  · rintro ⟨rs, p, rfl⟩
    exact ⟨[], rs, List.mem_singleton.mpr rfl, p, rfl⟩
/-- nodup of what is joined: all rows of one part are equally long -/
theorem join_nodup {Rs : List (List (List Int))} : ∀ {acc : List (List Int)} {k : Nat}, (∀ R ∈ Rs, R.Nodup) → (∀ R ∈ Rs, ∃ n, ∀ r ∈ R, r.length = n) → acc.Nodup → (∀ a ∈ acc, a.length = k) →
    (Rs.foldl (fun acc R => acc.flatMap fun row => R.map fun part => row ++ part) acc).Nodup := by
  induction Rs with
  | nil => intro acc k _ _ h _; exact h
  | cons R Rs ih =>
    intro acc k h1 h2 h3 h4
    rw [List.foldl_cons]
    obtain ⟨n, hn⟩ := h2 R List.mem_cons_self
    refine ih (k := k + n) (fun S hS => h1 S (List.mem_cons_of_mem _ hS)) (fun S hS => h2 S (List.mem_cons_of_mem _ hS)) ?_ ?_
    · show List.Pairwise _ _
      rw [List.pairwise_flatMap]
      constructor
      · intro a _
        rw [List.pairwise_map]
        exact (h1 R List.mem_cons_self).imp fun {x y} h e => h (List.append_cancel_left e)
      · refine List.Pairwise.imp_of_mem (fun {a b} ha hb h x hx y hy e => ?_) h3
        obtain ⟨p, hp, rfl⟩ := List.mem_map.mp hx
        obtain ⟨q, hq, rfl⟩ := List.mem_map.mp hy
        exact h (List.append_inj_left e ((h4 a ha).trans (h4 b hb).symm))
    · intro x hx
      obtain ⟨a, ha, hx⟩ := List.mem_flatMap.mp hx
      obtain ⟨p, hp, rfl⟩ := List.mem_map.mp hx
      rw [List.length_append, h4 a ha, hn p hp]

/-! the child at a place -/
def kid (cs : List Tr) (k : Int) : Tr := cs.getD k.toNat (.node false [])
theorem kid_nat {cs : List Tr} {i : Nat} (h : i < cs.length) : kid cs (i : Int) = cs[i] := by
  unfold kid
  rw [Int.toNat_natCast, List.getD_eq_getElem?_getD, List.getElem?_eq_getElem h]
  rfl
theorem kid_mem {cs : List Tr} {k : Int} (h : k ∈ rng cs.length) : kid cs k ∈ cs := by
  obtain ⟨h1, h2⟩ := mem_rng.mp h
  have e : k = ((k.toNat : Nat) : Int) := by omega
  rw [e, kid_nat (by omega)]
  exact List.getElem_mem _
theorem kids_all (cs : List Tr) : (rng cs.length).map (kid cs) = cs := by
  apply List.ext_getElem
  · simp [rng_len]
  · intro i h1 h2
    simp only [List.getElem_map]
    have : (rng cs.length)[i]'(by simpa using h1) = (i : Int) := by
      have := rng_get (n := cs.length) h2
      rw [List.getElem?_eq_getElem (by simpa [rng_len] using h2)] at this
      exact Option.some.inj this
    rw [this, kid_nat h2]
theorem rows_kid {cs : List Tr} {k : Int} (h : k ∈ rng cs.length) : (rowsL cs).getD k.toNat [] = rows (kid cs k) := by
  obtain ⟨h1, h2⟩ := mem_rng.mp h
  have hk : k.toNat < cs.length := by omega
  unfold kid
  rw [rowsL_map, List.getD_eq_getElem?_getD, List.getD_eq_getElem?_getD, List.getElem?_map, List.getElem?_eq_getElem hk]
  rfl
theorem places_perm {b : Bool} {n : Nat} {o : List Int} (h : o ∈ placeOrds b n) : o.Perm (rng n) := by
  unfold placeOrds at h
  cases b with
  | false => exact mem_orders.mp h
  | true =>
    simp only [cond_true, List.mem_cons, List.not_mem_nil, or_false] at h
    rcases h with rfl | rfl
    · exact .refl _
    · exact List.reverse_perm _
theorem mem_rows {b : Bool} {cs : List Tr} {r : List Int} : r ∈ rows (.node b cs) ↔ ∃ o rs, o ∈ placeOrds b cs.length ∧ Pick rs (o.map fun k => rows (kid cs k)) ∧ r = rs.flatten := by
  rw [rows, List.mem_flatMap]
  have e : ∀ o ∈ placeOrds b cs.length, (o.map fun k => (rowsL cs).getD k.toNat []) = o.map fun k => rows (kid cs k) := fun o ho => by
    refine List.map_congr_left fun k hk => rows_kid ((places_perm ho).mem_iff.mp hk)
  constructor
  · rintro ⟨o, ho, h⟩
    rw [e o ho] at h
    obtain ⟨rs, p, q⟩ := mem_joinR.mp h
    exact ⟨o, rs, ho, p, q⟩
  · rintro ⟨o, rs, ho, p, q⟩
    refine ⟨o, ho, ?_⟩
    rw [e o ho]
    exact mem_joinR.mpr ⟨rs, p, q⟩
theorem perm_leaves {cs : List Tr} {o : List Int} (h : o.Perm (rng cs.length)) : (o.map fun k => leaves (kid cs k)).flatten.Perm (leavesL cs) := by
  have e : ((rng cs.length).map fun k => leaves (kid cs k)).flatten = leavesL cs := by
    rw [leavesL_flat]
    conv => rhs; rw [← kids_all cs]
    rw [List.map_map]
    rfl
  rw [← e]
  exact (h.map _).flatten
theorem pick_perm : ∀ {rs : List (List Int)} {ts : List Tr}, (∀ t ∈ ts, ∀ r ∈ rows t, r.Perm (leaves t)) → Pick rs (ts.map rows) → rs.flatten.Perm (leavesL ts)
  | _, [], _, p => by
    have p' : Pick _ [] := p
    cases p'
    simp [leavesL]
  | _, t :: ts, h, p => by
    have p' : Pick _ (rows t :: ts.map rows) := p
    cases p' with
    | cons h1 h2 =>
      rw [leavesL, List.flatten_cons]
      exact (h t List.mem_cons_self _ h1).append (pick_perm (fun t ht => h t (List.mem_cons_of_mem _ ht)) h2)
theorem leavesL_perm : ∀ {xs ys : List Tr}, xs.Perm ys → (leavesL xs).Perm (leavesL ys) := fun h => by
  rw [leavesL_flat, leavesL_flat]
  exact (h.map _).flatten
mutual
theorem rows_perm : ∀ (t : Tr) (r : List Int), r ∈ rows t → r.Perm (leaves t)
  | .leaf i, r, h => by
    rw [rows, List.mem_singleton] at h
    rw [h, leaves]
  | .node b cs, r, h => by
    obtain ⟨o, rs, ho, p, rfl⟩ := mem_rows.mp h
    have hp := places_perm ho
    have e : (o.map fun k => rows (kid cs k)) = (o.map (kid cs)).map rows := by rw [List.map_map]; rfl
    rw [e] at p
    have q := pick_perm (fun t ht r hr => ?_) p
    · rw [leaves]
      refine q.trans (leavesL_perm ?_)
      have := hp.map (kid cs)
      rw [kids_all] at this
      exact this
    · obtain ⟨k, hk, rfl⟩ := List.mem_map.mp ht
      exact rowsL_perm cs _ (kid_mem (hp.mem_iff.mp hk)) r hr
theorem rowsL_perm : ∀ (cs : List Tr) (t : Tr), t ∈ cs → ∀ r ∈ rows t, r.Perm (leaves t)
  | c :: cs, t, h, r, hr => by
    rcases List.mem_cons.mp h with e | h
    · rw [e] at hr ⊢
      exact rows_perm c r hr
    · exact rowsL_perm cs t h r hr
end
end Kt
/-! sets together -/
namespace Kt
section
variable {α : Type}
/-- together: what stands between two of c is of c -/
def Conv (c : α → Prop) (r : List α) : Prop := ∀ x y z, [x, y, z].Sublist r → c x → c z → c y
theorem Conv.sub {c : α → Prop} {r s : List α} (h : Conv c r) (hs : s.Sublist r) : Conv c s := fun x y z q => h x y z (q.trans hs)
theorem Conv.congr {c d : α → Prop} {r : List α} (e : ∀ x, c x ↔ d x) (h : Conv c r) : Conv d r := fun x y z q hx hz => (e y).mp (h x y z q ((e x).mpr hx) ((e z).mpr hz))
theorem Conv.rev {c : α → Prop} {r : List α} (h : Conv c r) : Conv c r.reverse := fun x y z q hx hz => h z y x (by
  have := q.reverse
  simpa using this) hz hx
/-- in one block alone -/
theorem Conv.block {c : α → Prop} {p q s : List α} (h : Conv c q) (hp : ∀ x ∈ p, ¬ c x) (hs : ∀ x ∈ s, ¬ c x) : Conv c (p ++ q ++ s) := by
  intro x y z hq hx hz
  obtain ⟨l1, l2, e, h1, h2⟩ := List.sublist_append_iff.mp hq
  obtain ⟨l3, l4, e', h3, h4⟩ := List.sublist_append_iff.mp h1
  subst e'
  have n3 : l3 = [] := by
    cases l3 with
    | nil => rfl
    | cons a l3 =>
      have : x = a := by simpa using congrArg List.head? e
      subst this
      exact absurd hx (hp _ (h3.subset List.mem_cons_self))
  subst n3
  have n2 : l2 = [] := by
    cases hl : l2.reverse with
    | nil => simpa using hl
    | cons a l2' =>
      have e2 : l2 = l2'.reverse ++ [a] := by
        have := congrArg List.reverse hl
        simpa using this
      have : z = a := by
        rw [e2, List.nil_append] at e
        have := congrArg List.getLast? e
        simpa using this
      subst this
      exact absurd hz (hs _ (h2.subset (by rw [e2]; simp)))
  subst n2
  rw [List.nil_append, List.append_nil] at e
  rw [← e] at h4
  exact h x y z h4 hx hz
theorem Conv.all {c : α → Prop} {q : List α} (h : ∀ x ∈ q, c x) : Conv c q := fun x y z hq _ _ => h y (hq.subset (by simp))
end

theorem tw_mem {α : Type} {p : α → Bool} {y : α} : ∀ {l : List α}, y ∈ l.takeWhile p → p y = true
  | [], h => by simp at h
  | x :: l, h => by
    rw [List.takeWhile_cons] at h
    split at h
    · rcases List.mem_cons.mp h with e | h
      · subst e; assumption
      · exact tw_mem h
    · simp at h
/-- blocks of a row: the blocks rs are rearrangements of the leaves of ts -/
inductive Blk : List (List Int) → List Tr → Prop
  | nil : Blk [] []
  | cons {r : List Int} {t : Tr} {rs : List (List Int)} {ts : List Tr} (h : r.Perm (leaves t)) (k : Blk rs ts) : Blk (r :: rs) (t :: ts)
/-- a row in which each child is together is one of blocks -/
theorem blocks_of : ∀ (n : Nat) (cs : List Tr) (r : List Int), cs.length = n → (leavesL cs).Nodup → (∀ t ∈ cs, leaves t ≠ []) → r.Perm (leavesL cs) → (∀ t ∈ cs, Conv (fun x => x ∈ leaves t) r) → ∃ ts rs, ts.Perm cs ∧ Blk rs ts ∧ r = rs.flatten
  | 0, cs, r, hn, _, _, hp, _ => by
    have e := List.eq_nil_of_length_eq_zero hn
    subst e
    rw [leavesL] at hp
    exact ⟨[], [], .refl _, .nil, hp.eq_nil⟩
  | n + 1, cs, r, hn, hd, hne, hp, hc => by
    cases r with
    | nil =>
      cases cs with
      | nil => simp at hn
      | cons c cs =>
        have := hp.symm.eq_nil
        rw [leavesL] at this
        exact absurd (List.append_eq_nil_iff.mp this).1 (hne c List.mem_cons_self)
    | cons x r =>
      obtain ⟨d, hdm, hx⟩ := mem_leavesL.mp (hp.mem_iff.mp List.mem_cons_self)
      obtain ⟨pre, post, rfl⟩ := List.append_of_mem hdm
      have pp : (pre ++ d :: post).Perm (d :: (pre ++ post)) := List.perm_middle
      have hp2 := hp.trans (leavesL_perm pp)
      have hd2 := (leavesL_perm pp).nodup_iff.mp hd
      rw [leavesL] at hp2 hd2
      obtain ⟨nd1, nd2, nd3⟩ := List.nodup_append.mp hd2
      have nr : (x :: r).Nodup := hp2.nodup_iff.mpr hd2
      -- the first block
      have es := List.takeWhile_append_dropWhile (p := fun y => decide (y ∈ leaves d)) (l := x :: r)
      generalize hm : (x :: r).takeWhile (fun y => decide (y ∈ leaves d)) = m at es
      generalize hb : (x :: r).dropWhile (fun y => decide (y ∈ leaves d)) = b at es
      have m_in : ∀ y ∈ m, y ∈ leaves d := fun y hy => by
        rw [← hm] at hy
        have := tw_mem hy
        simpa using this
      have m_x : ∃ m', m = x :: m' := by
        rw [← hm, List.takeWhile_cons, if_pos (by simpa using hx)]
        exact ⟨_, rfl⟩
      have b_out : ∀ z ∈ b, z ∉ leaves d := by
        cases hbb : b with
        | nil => intro z hz; simp at hz
        | cons y b' =>
          have hy : y ∉ leaves d := by
            have := List.head?_dropWhile_not (fun y => decide (y ∈ leaves d)) (x :: r)
            rw [hb, hbb] at this
            simpa using this
          intro z hz hzd
          rcases List.mem_cons.mp hz with e | hz
          · rw [e] at hzd; exact hy hzd
          · obtain ⟨m', em⟩ := m_x
            have sub : [x, y, z].Sublist (x :: r) := by
              rw [← es, em, hbb, List.cons_append]
              refine List.Sublist.cons₂ x ?_
              refine List.Sublist.trans ?_ (List.sublist_append_right m' (y :: b'))
              exact List.Sublist.cons₂ y (List.singleton_sublist.mpr hz)
            exact hy (hc d hdm x y z sub hx hzd)
      have nmb : (m ++ b).Nodup := by rw [es]; exact nr
      obtain ⟨nm, nb, _⟩ := List.nodup_append.mp nmb
      have mp : m.Perm (leaves d) := by
        rw [List.perm_ext_iff_of_nodup nm nd1]
        intro a
        refine ⟨m_in a, fun ha => ?_⟩
        have : a ∈ m ++ b := by rw [es]; exact hp2.mem_iff.mpr (List.mem_append_left _ ha)
        rcases List.mem_append.mp this with h | h
        · exact h
        · exact absurd ha (b_out a h)
      have bp : b.Perm (leavesL (pre ++ post)) := by
        have h1 : (m ++ b).Perm (leaves d ++ leavesL (pre ++ post)) := by rw [es]; exact hp2
        have h2 : (m ++ b).Perm (m ++ leavesL (pre ++ post)) := h1.trans (mp.symm.append_right _)
        exact (List.perm_append_left_iff m).mp h2
      have bsub : b.Sublist (x :: r) := by rw [← es]; exact List.sublist_append_right m b
      obtain ⟨ts, rs, p1, p2, p3⟩ := blocks_of n (pre ++ post) b (by simp at hn ⊢; omega) nd2 (fun t ht => hne t (by
        rcases List.mem_append.mp ht with h | h
        · exact List.mem_append_left _ h
        · exact List.mem_append_right _ (List.mem_cons_of_mem _ h))) bp (fun t ht => (hc t (by
        rcases List.mem_append.mp ht with h | h
        · exact List.mem_append_left _ h
        · exact List.mem_append_right _ (List.mem_cons_of_mem _ h))).sub bsub)
      refine ⟨d :: ts, m :: rs, (p1.cons d).trans pp.symm, .cons mp p2, ?_⟩
      rw [List.flatten_cons, ← p3, es]

/-- a list whose neighbours stay neighbours in a rearrangement: that one is it, or it turned round -/
theorem chain_of {α : Type} : ∀ (cs ts : List α), cs.Nodup → ts.Perm cs → (∀ pre d e post, cs = pre ++ d :: e :: post → Conv (fun x => x = d ∨ x = e) ts) → ts = cs ∨ ts = cs.reverse
  | [], ts, _, hp, _ => .inl hp.eq_nil
  | [a], ts, _, hp, _ => .inl (List.perm_singleton.mp hp)
  | a :: b :: r, ts, hn, hp, hc => by
    have ha : a ∈ ts := hp.mem_iff.mpr List.mem_cons_self
    obtain ⟨p, s, rfl⟩ := List.append_of_mem ha
    have hp1 : (p ++ s).Perm (b :: r) := (List.perm_cons a).mp (List.perm_middle.symm.trans hp)
    obtain ⟨na, nb⟩ := List.nodup_cons.mp hn
    have sub : (p ++ s).Sublist (p ++ a :: s) := List.Sublist.append (List.Sublist.refl p) (List.sublist_cons_self a s)
    have ih := chain_of (b :: r) (p ++ s) nb hp1 fun pre d e post q => (hc (a :: pre) d e post (by rw [q]; rfl)).sub sub
    have cab : Conv (fun x => x = a ∨ x = b) (p ++ a :: s) := hc [] a b r rfl
    have nts : (p ++ a :: s).Nodup := hp.nodup_iff.mpr hn
    have key : ∀ (p s : List α), (p ++ a :: s).Nodup → Conv (fun x => x = a ∨ x = b) (p ++ a :: s) → (∀ c r', r = c :: r' → Conv (fun x => x = b ∨ x = c) (p ++ a :: s)) → p ++ s = b :: r → p ++ a :: s = a :: b :: r ∨ p ++ a :: s = (a :: b :: r).reverse := by
      intro p s nts cab cbc e
      cases p with
      | nil =>
        rw [List.nil_append] at e
        exact .inl (by rw [e]; rfl)
      | cons b' p =>
        simp only [List.cons_append, List.cons.injEq] at e
        obtain ⟨rfl, e⟩ := e
        cases p with
        | cons c p =>
          exfalso
          have := cab b' c a (by
            simp only [List.cons_append]
            refine List.Sublist.cons₂ _ (List.Sublist.cons₂ _ ?_)
            exact List.singleton_sublist.mpr (by simp)) (.inr rfl) (.inl rfl)
          simp only [List.cons_append, List.nodup_cons, List.mem_cons, List.mem_append, not_or] at nts
          rcases this with h | h
          · exact nts.2.1.2.1 h
          · exact nts.1.1 h.symm
        | nil =>
          rw [List.nil_append] at e
          subst e
          cases s with
          | nil => exact .inr rfl
          | cons c r' =>
            exfalso
            have := cbc c r' rfl b' a c (by simp) (.inl rfl) (.inr rfl)
            simp only [List.cons_append, List.nil_append, List.nodup_cons, List.mem_cons, not_or] at nts
            rcases this with h | h
            · exact nts.1.1 h.symm
            · exact nts.2.1.1 h
    have cbc : ∀ c r', r = c :: r' → Conv (fun x => x = b ∨ x = c) (p ++ a :: s) := fun c r' e => hc [a] b c r' (by rw [e]; rfl)
    rcases ih with e | e
    · exact key p s nts cab cbc e
    · have e' : s.reverse ++ p.reverse = b :: r := by
        have := congrArg List.reverse e
        simpa using this
      have er : (p ++ a :: s).reverse = s.reverse ++ a :: p.reverse := by simp
      have := key s.reverse p.reverse (by rw [← er]; exact ((List.reverse_perm _).nodup_iff.mpr nts)) (by rw [← er]; exact cab.rev) (fun c r' q => by rw [← er]; exact (cbc c r' q).rev) e'
      rw [← er] at this
      rcases this with h | h
      · right
        have := congrArg List.reverse h
        simpa using this
      · left
        have := congrArg List.reverse h
        simpa using this
end Kt
/-! the rows of a tree are the rows in which the told sets are together -/
namespace Kt
theorem leaves_inj : ∀ {cs : List Tr}, (leavesL cs).Nodup → (∀ t ∈ cs, leaves t ≠ []) → cs.Nodup
  | [], _, _ => List.nodup_nil
  | t :: ts, h, hne => by
    rw [leavesL] at h
    obtain ⟨h1, h2, h3⟩ := List.nodup_append.mp h
    refine List.nodup_cons.mpr ⟨fun ht => ?_, leaves_inj h2 fun t ht => hne t (List.mem_cons_of_mem _ ht)⟩
    obtain ⟨x, hx⟩ := List.exists_mem_of_ne_nil _ (hne t List.mem_cons_self)
    exact h3 x hx x (leaves_sub ht hx) rfl
/-- a block of a row of blocks -/
theorem blk_split : ∀ {rs : List (List Int)} {ts pre post : List Tr} {d : Tr}, Blk rs ts → ts = pre ++ d :: post → ∃ r1 r r2, rs = r1 ++ r :: r2 ∧ Blk r1 pre ∧ r.Perm (leaves d) ∧ Blk r2 post
  | _, _, [], post, d, b, e => by
    subst e
    cases b with
    | cons h k => exact ⟨[], _, _, rfl, .nil, h, k⟩
  | _, _, p :: pre, post, d, b, e => by
    subst e
    cases b with
    | cons h k =>
      obtain ⟨r1, r, r2, e, b1, hr, b2⟩ := blk_split k rfl
      exact ⟨_ :: r1, r, r2, by rw [e]; rfl, .cons h b1, hr, b2⟩
theorem blk_perm : ∀ {rs : List (List Int)} {ts : List Tr}, Blk rs ts → rs.flatten.Perm (leavesL ts)
  | _, _, .nil => by simp [leavesL]
  | _, _, .cons h k => by
    rw [leavesL, List.flatten_cons]
    exact h.append (blk_perm k)
/-- disjointness of children -/
theorem apart {pre post : List Tr} {d : Tr} (h : (leavesL (pre ++ d :: post)).Nodup) : (∀ x ∈ leavesL pre, x ∉ leaves d) ∧ (∀ x ∈ leavesL post, x ∉ leaves d) := by
  rw [leavesL_append, leavesL] at h
  obtain ⟨_, h2, h3⟩ := List.nodup_append.mp h
  obtain ⟨_, _, h6⟩ := List.nodup_append.mp h2
  exact ⟨fun x hx q => h3 x hx x (List.mem_append_left _ q) rfl, fun x hx q => h6 x q x hx rfl⟩
/-- a row of the tree keeps what is told -/
theorem kid_blk {cs : List Tr} : ∀ {o : List Int} {rs : List (List Int)}, (∀ k ∈ o, k ∈ rng cs.length) → Pick rs (o.map fun k => rows (kid cs k)) → Blk rs (o.map (kid cs))
  | [], _, _, p => by
    have p' : Pick _ [] := p
    cases p'
    exact .nil
  | k :: o, _, h, p => by
    have p' : Pick _ (rows (kid cs k) :: o.map fun k => rows (kid cs k)) := p
    cases p' with
    | cons h1 h2 => exact .cons (rows_perm _ _ h1) (kid_blk (fun k hk => h k (List.mem_cons_of_mem _ hk)) h2)
theorem pick_split : ∀ {rs : List (List Int)} {ts pre post : List Tr} {d : Tr}, Pick rs (ts.map rows) → ts = pre ++ d :: post → ∃ r1 r r2, rs = r1 ++ r :: r2 ∧ Pick r1 (pre.map rows) ∧ r ∈ rows d ∧ Pick r2 (post.map rows)
  | _, _, [], post, d, b, e => by
    subst e
    have b' : Pick _ (rows d :: post.map rows) := b
    cases b' with
    | cons h k => exact ⟨[], _, _, rfl, .nil, h, k⟩
  | _, _, p :: pre, post, d, b, e => by
    subst e
    have b' : Pick _ (rows p :: (pre ++ d :: post).map rows) := b
    cases b' with
    | cons h k =>
      obtain ⟨r1, r, r2, e, b1, hr, b2⟩ := pick_split k rfl
      exact ⟨_ :: r1, r, r2, by rw [e]; rfl, .cons h b1, hr, b2⟩
theorem blk_pick : ∀ {rs : List (List Int)} {ts : List Tr}, Pick rs (ts.map rows) → Blk rs ts
  | _, [], p => by
    have p' : Pick _ [] := p
    cases p'
    exact .nil
  | _, t :: ts, p => by
    have p' : Pick _ (rows t :: ts.map rows) := p
    cases p' with
    | cons h1 h2 => exact .cons (rows_perm _ _ h1) (blk_pick h2)
abbrev InC (c : List Int) : Int → Prop := fun x => x ∈ c
theorem conv_kid {ts pre post : List Tr} {d : Tr} {rs : List (List Int)} (hn : (leavesL ts).Nodup) (p : Pick rs (ts.map rows)) (e : ts = pre ++ d :: post) {c : List Int} (hc : ∀ x ∈ c, x ∈ leaves d) (h : ∀ r ∈ rows d, Conv (InC c) r) : Conv (InC c) rs.flatten := by
  obtain ⟨r1, r, r2, rfl, p1, hr, p2⟩ := pick_split p e
  subst e
  obtain ⟨a1, a2⟩ := apart hn
  have e2 : (r1 ++ r :: r2).flatten = r1.flatten ++ r ++ r2.flatten := by simp
  rw [e2]
  refine Conv.block (h r hr) (fun x hx hxc => ?_) (fun x hx hxc => ?_)
  · exact a1 x ((blk_perm (blk_pick p1)).mem_iff.mp hx) (hc x hxc)
  · exact a2 x ((blk_perm (blk_pick p2)).mem_iff.mp hx) (hc x hxc)
theorem conv_pair {ts pre post : List Tr} {d e : Tr} {rs : List (List Int)} (hn : (leavesL ts).Nodup) (p : Pick rs (ts.map rows)) (q : ts = pre ++ d :: e :: post) : Conv (fun x => x ∈ leaves d ∨ x ∈ leaves e) rs.flatten := by
  obtain ⟨r1, r, r2, rfl, p1, hr, p2⟩ := pick_split p q
  obtain ⟨r3, r', r4, e3, p3, hr', p4⟩ := pick_split (pre := []) p2 rfl
  have p3' : Pick r3 [] := p3
  cases p3'
  rw [List.nil_append] at e3
  subst e3
  subst q
  obtain ⟨a1, a2⟩ := apart hn
  have hn2 : (leavesL ((pre ++ [d]) ++ e :: post)).Nodup := by rw [List.append_assoc]; exact hn
  obtain ⟨b1, b2⟩ := apart hn2
  have e2 : (r1 ++ r :: r' :: r4).flatten = r1.flatten ++ (r ++ r') ++ r4.flatten := by simp
  rw [e2]
  refine Conv.block (Conv.all fun x hx => ?_) (fun x hx hxc => ?_) (fun x hx hxc => ?_)
  · rcases List.mem_append.mp hx with h | h
    · exact .inl ((rows_perm _ _ hr).mem_iff.mp h)
    · exact .inr ((rows_perm _ _ hr').mem_iff.mp h)
  · have := (blk_perm (blk_pick p1)).mem_iff.mp hx
    rcases hxc with h | h
    · exact a1 x this h
    · exact b1 x (by rw [leavesL_append]; exact List.mem_append_left _ this) h
  · have := (blk_perm (blk_pick p4)).mem_iff.mp hx
    rcases hxc with h | h
    · exact a2 x (by rw [leavesL]; exact List.mem_append_right _ this) h
    · exact b2 x this h
theorem turn_orders {cs : List Tr} {o : List Int} (ho : o ∈ placeOrds true cs.length) : o.map (kid cs) = cs ∨ o.map (kid cs) = cs.reverse := by
  simp only [placeOrds, cond_true, List.mem_cons, List.not_mem_nil, or_false] at ho
  rcases ho with rfl | rfl
  · exact .inl (kids_all cs)
  · exact .inr (by rw [List.map_reverse, kids_all])
/-- rows of a node by its children in their order -/
theorem mem_rows' {b : Bool} {cs : List Tr} {r : List Int} (h : r ∈ rows (.node b cs)) : ∃ ts rs, ts.Perm cs ∧ (b = true → ts = cs ∨ ts = cs.reverse) ∧ Pick rs (ts.map rows) ∧ r = rs.flatten := by
  obtain ⟨o, rs, ho, p, rfl⟩ := mem_rows.mp h
  refine ⟨o.map (kid cs), rs, ?_, fun hb => ?_, by rw [List.map_map]; exact p, rfl⟩
  · have := (places_perm ho).map (kid cs)
    rw [kids_all] at this
    exact this
  · subst hb
    exact turn_orders ho
mutual
theorem rows_keep : ∀ (t : Tr), (leaves t).Nodup → ∀ r ∈ rows t, ∀ c, Told t c → Conv (InC c) r
  | .leaf i, _, r, _, c, h => by cases h
  | .node b cs, hn, r, hr, c, h => by
    rw [leaves] at hn
    obtain ⟨ts, rs, hp, hb, p, rfl⟩ := mem_rows' hr
    have hn' : (leavesL ts).Nodup := (leavesL_perm hp).nodup_iff.mpr hn
    cases h with
    | @child _ _ d hd hl =>
      obtain ⟨pre, post, e⟩ := List.append_of_mem (hp.mem_iff.mpr hd)
      refine conv_kid hn' p e (fun x hx => mem_srt.mp hx) fun r hr => Conv.all fun x hx => ?_
      exact mem_srt.mpr ((rows_perm _ _ hr).mem_iff.mp hx)
    | @under _ _ d _ hd hc =>
      obtain ⟨pre, post, e⟩ := List.append_of_mem (hp.mem_iff.mpr hd)
      exact conv_kid hn' p e (fun x hx => told_mem hc x hx) fun r hr => rowsL_keep cs hn d hd r hr c hc
    | @pair pre post d e =>
      have cg : ∀ x, (x ∈ leaves d ∨ x ∈ leaves e) ↔ InC (srt (leaves d ++ leaves e)) x := fun x => by
        show _ ↔ x ∈ srt _
        rw [mem_srt, List.mem_append]
      rcases hb rfl with q | q
      · exact (conv_pair hn' p q).congr cg
      · have q' : ts = post.reverse ++ e :: d :: pre.reverse := by rw [q]; simp
        exact (conv_pair hn' p q').congr fun x => by rw [Or.comm]; exact cg x
theorem rowsL_keep : ∀ (cs : List Tr), (leavesL cs).Nodup → ∀ d ∈ cs, ∀ r ∈ rows d, ∀ c, Told d c → Conv (InC c) r
  | t :: ts, hn, d, hd, r, hr, c, hc => by
    rw [leavesL] at hn
    obtain ⟨h1, h2, _⟩ := List.nodup_append.mp hn
    rcases List.mem_cons.mp hd with e | hd
    · rw [e] at hr hc
      exact rows_keep t h1 r hr c hc
    · exact rowsL_keep ts h2 d hd r hr c hc
end
/-- an order of the children as an order of places -/
theorem perm_lift {α β : Type} (f : α → β) {xs ys : List β} (h : xs.Perm ys) : ∀ l : List α, ys = l.map f → ∃ l' : List α, l'.Perm l ∧ xs = l'.map f := by
  induction h with
  | nil => intro l e; exact ⟨[], by rw [show l = [] by simpa using e.symm], rfl⟩
  | @cons x l1 l2 _ ih =>
    intro l e
    cases l with
    | nil => simp at e
    | cons a l =>
      simp only [List.map_cons, List.cons.injEq] at e
      obtain ⟨l', p, q⟩ := ih l e.2
      exact ⟨a :: l', p.cons a, by rw [e.1, q]; rfl⟩
  | swap x y l0 =>
    intro l e
    cases l with
    | nil => simp at e
    | cons a l =>
      cases l with
      | nil => simp at e
      | cons b l =>
        simp only [List.map_cons, List.cons.injEq] at e
        exact ⟨b :: a :: l, .swap a b l, by simp [e.1, e.2.1, e.2.2]⟩
  | trans _ _ ih1 ih2 =>
    intro l e
    obtain ⟨l2, p2, e2⟩ := ih2 l e
    obtain ⟨l1, p1, e1⟩ := ih1 l2 e2
    exact ⟨l1, p1.trans p2, e1⟩
theorem order_of {cs ts : List Tr} (h : ts.Perm cs) : ∃ o : List Int, o.Perm (rng cs.length) ∧ ts = o.map (kid cs) := perm_lift (kid cs) h (rng cs.length) (kids_all cs).symm
theorem rows_of {b : Bool} {cs ts : List Tr} {rs : List (List Int)} (hp : ts.Perm cs) (hb : b = true → ts = cs ∨ ts = cs.reverse) (p : Pick rs (ts.map rows)) : rs.flatten ∈ rows (.node b cs) := by
  have fin : ∀ o, o ∈ placeOrds b cs.length → ts = o.map (kid cs) → rs.flatten ∈ rows (.node b cs) := fun o ho e => by
    refine mem_rows.mpr ⟨o, rs, ho, ?_, rfl⟩
    rw [e, List.map_map] at p
    exact p
  cases b with
  | false =>
    obtain ⟨o, h1, h2⟩ := order_of hp
    exact fin o (mem_orders.mpr h1) h2
  | true =>
    rcases hb rfl with e | e
    · exact fin (rng cs.length) (by simp [placeOrds]) (by rw [kids_all, e])
    · exact fin (rng cs.length).reverse (by simp [placeOrds]) (by rw [List.map_reverse, kids_all, e])
/-- a set of whole children together, seen as a row of children -/
theorem conv_up : ∀ {rs : List (List Int)} {ts : List Tr}, Blk rs ts → (leavesL ts).Nodup → (∀ t ∈ ts, leaves t ≠ []) → ∀ {C : Tr → Prop}, (∀ x y z, [x, y, z].Sublist ts → C x → C z → ∀ a b c, a ∈ leaves x → b ∈ leaves y → c ∈ leaves z → [a, b, c].Sublist rs.flatten) := by
  intro rs ts bl hn hne C x y z hs _ _ a b c ha hb hc
  have one : ∀ {rs : List (List Int)} {ts : List Tr}, Blk rs ts → ∀ {l : List Tr}, l.Sublist ts → ∀ {as : List Int}, (∃ ps, as = ps ∧ ps.length = l.length ∧ ∀ i (h1 : i < ps.length) (h2 : i < l.length), ps[i] ∈ leaves l[i]) → as.Sublist rs.flatten := by
    intro rs ts bl
    induction bl with
    | nil =>
      intro l hl as ⟨ps, e, h1, _⟩
      have : l = [] := List.sublist_nil.mp hl
      subst this
      subst e
      rw [List.eq_nil_of_length_eq_zero h1]
      exact List.nil_sublist _
    | @cons r t rs ts hr _ ih =>
      intro l hl as ⟨ps, e, h1, h2⟩
      subst e
      rw [List.flatten_cons]
      cases hl with
      | cons _ hl => exact (ih hl ⟨as, rfl, h1, h2⟩).trans (List.sublist_append_right _ _)
      | cons_cons _ hl =>
        cases as with
        | nil => exact List.nil_sublist _
        | cons a as =>
          have h3 : a ∈ leaves t := h2 0 (by simp) (by simp)
          have h4 := ih hl ⟨as, rfl, by simpa using h1, fun i g1 g2 => by
            have := h2 (i + 1) (by simpa using g1) (by simpa using g2)
            simpa using this⟩
          have h5 : [a].Sublist r := List.singleton_sublist.mpr (hr.mem_iff.mpr h3)
          exact h5.append h4
  refine one bl hs ⟨[a, b, c], rfl, rfl, fun i h1 h2 => ?_⟩
  match i, h1 with
  | 0, _ => exact ha
  | 1, _ => exact hb
  | 2, _ => exact hc
theorem conv_tops {rs : List (List Int)} {ts : List Tr} (bl : Blk rs ts) (hn : (leavesL ts).Nodup) (hne : ∀ t ∈ ts, leaves t ≠ []) {d e : Tr} (hd : d ∈ ts) (he : e ∈ ts) (h : Conv (fun x => x ∈ leaves d ∨ x ∈ leaves e) rs.flatten) : Conv (fun t => t = d ∨ t = e) ts := by
  intro x y z hs hx hz
  have my : y ∈ ts := hs.subset (by simp)
  have mx : x ∈ ts := hs.subset (by simp)
  have mz : z ∈ ts := hs.subset (by simp)
  obtain ⟨a, ha⟩ := List.exists_mem_of_ne_nil _ (hne x mx)
  obtain ⟨b, hb⟩ := List.exists_mem_of_ne_nil _ (hne y my)
  obtain ⟨c, hc⟩ := List.exists_mem_of_ne_nil _ (hne z mz)
  have sub := conv_up bl hn hne (C := fun _ => True) x y z hs trivial trivial a b c ha hb hc
  have key := h a b c sub (by rcases hx with e | e <;> rw [e] at ha <;> simp [ha]) (by rcases hz with e | e <;> rw [e] at hc <;> simp [hc])
  have same : ∀ u, u ∈ ts → b ∈ leaves u → y = u := fun u hu hbu => by
    by_cases q : y = u
    · exact q
    · exfalso
      obtain ⟨pre, post, e⟩ := List.append_of_mem my
      subst e
      obtain ⟨a1, a2⟩ := apart hn
      rcases List.mem_append.mp hu with h | h
      · exact a1 b (leaves_sub h hbu) hb
      · rcases List.mem_cons.mp h with h | h
        · exact q h.symm
        · exact a2 b (leaves_sub h hbu) hb
  rcases key with k | k
  · exact .inl (same d hd k)
  · exact .inr (same e he k)
mutual
theorem rows_all : ∀ (t : Tr), Ok t → (leaves t).Nodup → ∀ r : List Int, r.Perm (leaves t) → (∀ c, Told t c → Conv (InC c) r) → r ∈ rows t
  | .leaf i, _, _, r, hp, _ => by
    rw [leaves] at hp
    rw [rows, List.perm_singleton.mp hp]
    simp
  | .node b cs, ok, hn, r, hp, h => by
    rw [leaves] at hn hp
    rw [Ok] at ok
    have okc := (OkL_iff cs).mp ok.2
    have hne : ∀ t ∈ cs, leaves t ≠ [] := fun t ht => leaves_ne t (okc t ht)
    obtain ⟨ts, rs, pt, bl, rfl⟩ := blocks_of cs.length cs r rfl hn hne hp fun t ht => by
      cases hl : t.isLeaf with
      | false => exact (h _ (.child ht hl)).congr fun x => mem_srt
      | true =>
        cases t with
        | node b cs => cases hl
        | leaf i =>
          intro x y z hs hx hz
          exfalso
          have nr : r.Nodup := hp.nodup_iff.mpr hn
          have := nr.sublist hs
          rw [leaves] at hx hz
          rw [List.mem_singleton.mp hx, List.mem_singleton.mp hz] at this
          simp at this
    have hn' : (leavesL ts).Nodup := (leavesL_perm pt).nodup_iff.mpr hn
    have hne' : ∀ t ∈ ts, leaves t ≠ [] := fun t ht => hne t (pt.mem_iff.mp ht)
    refine rows_of pt (fun hb => ?_) ?_
    · subst hb
      refine chain_of cs ts (leaves_inj hn hne) pt fun pre d e post q => ?_
      subst q
      refine conv_tops bl hn' hne' (pt.mem_iff.mpr (by simp)) (pt.mem_iff.mpr (by simp)) ?_
      exact (h _ .pair).congr fun x => by
        show x ∈ srt _ ↔ _
        rw [mem_srt, List.mem_append]
    · -- each block is a row of its child
      have each : ∀ {rs : List (List Int)} {ts : List Tr}, Blk rs ts → (∀ t ∈ ts, ∀ r ∈ rs, r.Perm (leaves t) → r ∈ rows t) → Pick rs (ts.map rows) := by
        intro rs ts bl
        induction bl with
        | nil => intro _; exact .nil
        | cons h k ih =>
          intro q
          exact .cons (q _ List.mem_cons_self _ List.mem_cons_self h) (ih fun t ht r hr => q t (List.mem_cons_of_mem _ ht) r (List.mem_cons_of_mem _ hr))
      refine each bl fun t ht r hr hrp => ?_
      have tm := pt.mem_iff.mp ht
      refine rowsL_all cs ok.2 hn t tm r hrp fun c hc => (h c (.under tm hc)).sub ?_
      exact List.sublist_flatten_of_mem hr
theorem rowsL_all : ∀ (cs : List Tr), OkL cs → (leavesL cs).Nodup → ∀ t ∈ cs, ∀ r : List Int, r.Perm (leaves t) → (∀ c, Told t c → Conv (InC c) r) → r ∈ rows t
  | d :: ds, ok, hn, t, ht, r, hp, h => by
    rw [OkL] at ok
    rw [leavesL] at hn
    obtain ⟨h1, h2, _⟩ := List.nodup_append.mp hn
    rcases List.mem_cons.mp ht with e | ht
    · rw [e] at hp h ⊢
      exact rows_all d ok.1 h1 r hp h
    · exact rowsL_all ds ok.2 h2 t ht r hp h
end
/-- blocks of the same row are the same -/
theorem blk_uniq {cs : List Tr} (hn : (leavesL cs).Nodup) (hne : ∀ t ∈ cs, leaves t ≠ []) : ∀ {o o' : List Int} {rs rs' : List (List Int)}, (∀ k ∈ o, k ∈ rng cs.length) → (∀ k ∈ o', k ∈ rng cs.length) → Blk rs (o.map (kid cs)) → Blk rs' (o'.map (kid cs)) → rs.flatten = rs'.flatten → o = o' ∧ rs = rs'
  | [], [], _, _, _, _, b, b', _ => by
    have c : Blk _ [] := b
    have c' : Blk _ [] := b'
    cases c
    cases c'
    exact ⟨rfl, rfl⟩
  | [], k' :: o', _, _, _, hk', b, b', e => by
    exfalso
    have c : Blk _ [] := b
    have c' : Blk _ (kid cs k' :: o'.map (kid cs)) := b'
    cases c
    cases c' with
    | cons h1 _ =>
      rw [List.flatten_nil, List.flatten_cons] at e
      have := (List.append_eq_nil_iff.mp e.symm).1
      rw [this] at h1
      exact hne _ (kid_mem (hk' k' List.mem_cons_self)) h1.symm.eq_nil
  | k :: o, [], _, _, hk, _, b, b', e => by
    exfalso
    have c : Blk _ [] := b'
    have c' : Blk _ (kid cs k :: o.map (kid cs)) := b
    cases c
    cases c' with
    | cons h1 _ =>
      rw [List.flatten_nil, List.flatten_cons] at e
      have := (List.append_eq_nil_iff.mp e).1
      rw [this] at h1
      exact hne _ (kid_mem (hk k List.mem_cons_self)) h1.symm.eq_nil
  | k :: o, k' :: o', _, _, hk, hk', b, b', e => by
    have c : Blk _ (kid cs k :: o.map (kid cs)) := b
    have c' : Blk _ (kid cs k' :: o'.map (kid cs)) := b'
    cases c with
    | @cons r _ rs _ h1 h2 =>
      cases c' with
      | @cons r' _ rs' _ h1' h2' =>
        rw [List.flatten_cons, List.flatten_cons] at e
        have m1 := hk k List.mem_cons_self
        have m2 := hk' k' List.mem_cons_self
        obtain ⟨x, hx⟩ := List.exists_mem_of_ne_nil _ (hne _ (kid_mem m1))
        have hkk : k = k' := by
          have r1 : r ≠ [] := fun q => by rw [q] at h1; exact hne _ (kid_mem m1) h1.symm.eq_nil
          have r2 : r' ≠ [] := fun q => by rw [q] at h1'; exact hne _ (kid_mem m2) h1'.symm.eq_nil
          cases r with
          | nil => exact absurd rfl r1
          | cons y r =>
            cases r' with
            | nil => exact absurd rfl r2
            | cons y' r' =>
              have ey : y = y' := by
                have := congrArg List.head? e
                simpa using this
              subst ey
              have y1 : y ∈ leaves (kid cs k) := h1.mem_iff.mp List.mem_cons_self
              have y2 : y ∈ leaves (kid cs k') := h1'.mem_iff.mp List.mem_cons_self
              obtain ⟨b1, b2⟩ := mem_rng.mp m1
              obtain ⟨b3, b4⟩ := mem_rng.mp m2
              have e1 : k = ((k.toNat : Nat) : Int) := by omega
              have e2 : k' = ((k'.toNat : Nat) : Int) := by omega
              have l1 : k.toNat < cs.length := by omega
              have l2 : k'.toNat < cs.length := by omega
              rw [e1, kid_nat l1] at y1
              rw [e2, kid_nat l2] at y2
              by_cases q : k.toNat = k'.toNat
              · omega
              · exfalso
                have pw := (List.pairwise_flatten.mp (show List.Pairwise (· ≠ ·) (cs.map leaves).flatten by rw [← leavesL_flat]; exact hn)).2
                rw [List.pairwise_map] at pw
                have get := List.pairwise_iff_getElem.mp pw
                rcases Nat.lt_or_gt_of_ne q with q | q
                · exact get _ _ l1 l2 q y y1 y y2 rfl
                · exact get _ _ l2 l1 q y y2 y y1 rfl
        subst hkk
        have el : r.length = r'.length := h1.length_eq.trans h1'.length_eq.symm
        obtain ⟨er, ef⟩ := List.append_inj e el
        subst er
        obtain ⟨i1, i2⟩ := blk_uniq hn hne (fun k hk1 => hk k (List.mem_cons_of_mem _ hk1)) (fun k hk1 => hk' k (List.mem_cons_of_mem _ hk1)) h2 h2' ef
        exact ⟨by rw [i1], by rw [i2]⟩
theorem rng_rev_ne {n : Nat} (h : 2 ≤ n) : rng n ≠ (rng n).reverse := by
  intro e
  have h1 : (rng n)[0]? = some ((0 : Nat) : Int) := rng_get (by omega)
  have h2 : (rng n).reverse[0]? = some ((n - 1 : Nat) : Int) := by
    rw [List.getElem?_reverse (by rw [rng_len]; omega), rng_len, rng_get (by omega)]
    simp
  rw [e, h2] at h1
  have := Option.some.inj h1
  omega
theorem placeOrds_nodup {b : Bool} {n : Nat} (h : 2 ≤ n) : (placeOrds b n).Nodup := by
  cases b with
  | false => exact orders_nodup n
  | true =>
    simp only [placeOrds, cond_true]
    exact List.nodup_cons.mpr ⟨by simpa using rng_rev_ne h, by simp⟩
mutual
theorem rows_nodup : ∀ (t : Tr), Ok t → (leaves t).Nodup → (rows t).Nodup
  | .leaf i, _, _ => by simp [rows]
  | .node b cs, ok, hn => by
    rw [leaves] at hn
    rw [Ok] at ok
    have okc := (OkL_iff cs).mp ok.2
    have hne : ∀ t ∈ cs, leaves t ≠ [] := fun t ht => leaves_ne t (okc t ht)
    have h2 : 2 ≤ cs.length := by
      have := ok.1
      cases b <;> simp at this <;> omega
    rw [rows]
    show List.Pairwise _ _
    have e : ∀ o ∈ placeOrds b cs.length, (o.map fun k => (rowsL cs).getD k.toNat []) = o.map fun k => rows (kid cs k) := fun o ho =>
      List.map_congr_left fun k hk => rows_kid ((places_perm ho).mem_iff.mp hk)
    rw [List.pairwise_flatMap]
    constructor
    · intro o ho
      rw [e o ho]
      refine join_nodup (k := 0) (fun R hR => ?_) (fun R hR => ?_) (by simp) (by simp)
      · obtain ⟨k, hk, rfl⟩ := List.mem_map.mp hR
        exact rowsL_nodup cs ok.2 hn _ (kid_mem ((places_perm ho).mem_iff.mp hk))
      · obtain ⟨k, hk, rfl⟩ := List.mem_map.mp hR
        exact ⟨(leaves (kid cs k)).length, fun r hr => (rows_perm _ _ hr).length_eq⟩
    · refine List.Pairwise.imp_of_mem (fun {o o'} ho ho' hne' x hx y hy exy => ?_) (placeOrds_nodup h2)
      rw [e o ho] at hx
      rw [e o' ho'] at hy
      subst exy
      obtain ⟨rs, p, q⟩ := mem_joinR.mp hx
      obtain ⟨rs', p', q'⟩ := mem_joinR.mp hy
      have k1 : ∀ k ∈ o, k ∈ rng cs.length := fun k hk => (places_perm ho).mem_iff.mp hk
      have k2 : ∀ k ∈ o', k ∈ rng cs.length := fun k hk => (places_perm ho').mem_iff.mp hk
      exact hne' (blk_uniq hn hne k1 k2 (kid_blk k1 p) (kid_blk k2 p') (q.symm.trans q')).1
theorem rowsL_nodup : ∀ (cs : List Tr), OkL cs → (leavesL cs).Nodup → ∀ t ∈ cs, (rows t).Nodup
  | d :: ds, ok, hn, t, ht => by
    rw [OkL] at ok
    rw [leavesL] at hn
    obtain ⟨h1, h2, _⟩ := List.nodup_append.mp hn
    rcases List.mem_cons.mp ht with e | ht
    · rw [e]; exact rows_nodup d ok.1 h1
    · exact rowsL_nodup ds ok.2 h2 t ht
end
end Kt
/-! the law's look at a row, the lists of told sets, sizes, fits -/
namespace Kt
def places (c r : List Int) : List Int := (rng r.length).filter fun k => decide (r.getD k.toNat 0 ∈ c)
def tog (c r : List Int) : Bool := match places c r with
  | [] => true
  | p :: ps => decide ((p :: ps).getLast (List.cons_ne_nil _ _) - p + 1 = ((p :: ps).length : Int))
def plcs (c : List Int) : Nat → List Int → List Int
  | _, [] => []
  | k, x :: r => if x ∈ c then (k : Int) :: plcs c (k + 1) r else plcs c (k + 1) r
theorem rng_succ (n : Nat) : rng (n + 1) = rng n ++ [(n : Int)] := by
  unfold rng
  rw [List.range_succ, List.map_append]
  rfl
theorem plcs_append (c : List Int) : ∀ (k : Nat) (r s : List Int), plcs c k (r ++ s) = plcs c k r ++ plcs c (k + r.length) s
  | k, [], s => by simp [plcs]
  | k, x :: r, s => by
    have e : k + (x :: r).length = k + 1 + r.length := by rw [List.length_cons]; omega
    rw [List.cons_append, plcs, plcs, plcs_append c (k + 1) r s, e]
    split <;> simp
theorem places_take (c r : List Int) : ∀ n, n ≤ r.length → ((rng n).filter fun k => decide (r.getD k.toNat 0 ∈ c)) = plcs c 0 (r.take n)
  | 0, _ => by simp [rng, plcs]
  | n + 1, h => by
    have hn : n < r.length := by omega
    rw [rng_succ, List.filter_append, places_take c r n (by omega), List.take_succ, List.getElem?_eq_getElem hn]
    have e : r.getD ((n : Int)).toNat 0 = r[n] := by
      rw [Int.toNat_natCast, List.getD_eq_getElem?_getD, List.getElem?_eq_getElem hn]
      rfl
    rw [Option.toList_some, plcs_append, List.length_take_of_le (by omega), Nat.zero_add, plcs, plcs]
    congr 1
    rw [List.filter_cons, e]
    by_cases q : r[n] ∈ c
    · simp [q]
    · simp [q]
theorem places_eq (c r : List Int) : places c r = plcs c 0 r := by
  have := places_take c r r.length (Nat.le_refl _)
  rw [List.take_length] at this
  exact this
theorem plcs_out {c : List Int} : ∀ {k : Nat} {r : List Int}, (∀ x ∈ r, x ∉ c) → plcs c k r = []
  | _, [], _ => rfl
  | k, x :: r, h => by
    rw [plcs, if_neg (h x List.mem_cons_self)]
    exact plcs_out fun y hy => h y (List.mem_cons_of_mem _ hy)
/-- all of c: the places follow each other -/
theorem plcs_in {c : List Int} : ∀ {k : Nat} {r : List Int}, (∀ x ∈ r, x ∈ c) → (plcs c k r).length = r.length ∧ ∀ h : plcs c k r ≠ [], (plcs c k r).getLast h = (k : Int) + r.length - 1
  | _, [], _ => ⟨rfl, fun h => absurd rfl h⟩
  | k, x :: r, h => by
    have hr : ∀ y ∈ r, y ∈ c := fun y hy => h y (List.mem_cons_of_mem _ hy)
    obtain ⟨h1, h2⟩ := plcs_in (k := k + 1) hr
    have e : plcs c k (x :: r) = (k : Int) :: plcs c (k + 1) r := by rw [plcs, if_pos (h x List.mem_cons_self)]
    refine ⟨by rw [e, List.length_cons, h1, List.length_cons], ?_⟩
    rw [e]
    intro hne
    by_cases q : plcs c (k + 1) r = []
    · have : r.length = 0 := by rw [← h1, q]; rfl
      simp only [q, List.getLast_singleton, List.length_cons, this]
      omega
    · rw [List.getLast_cons q, h2 q, List.length_cons]
      omega
theorem plcs_last {c : List Int} : ∀ {k : Nat} {r : List Int} (h : plcs c k r ≠ []), (k : Int) + (plcs c k r).length - 1 ≤ (plcs c k r).getLast h
  | _, [], h => absurd rfl h
  | k, x :: r, h => by
    have e : plcs c k (x :: r) = if x ∈ c then (k : Int) :: plcs c (k + 1) r else plcs c (k + 1) r := rfl
    by_cases q : x ∈ c
    · rw [if_pos q] at e
      by_cases q2 : plcs c (k + 1) r = []
      · simp only [e, q2, List.getLast_singleton, List.length_cons, List.length_nil]
        omega
      · have := plcs_last q2
        simp only [e, List.getLast_cons q2, List.length_cons]
        omega
    · rw [if_neg q] at e
      have h' : plcs c (k + 1) r ≠ [] := by rw [← e]; exact h
      have := plcs_last h'
      simp only [e]
      omega
/-- a list parted where c begins and first ends -/
theorem parted (c r : List Int) : ∃ a m b, r = a ++ m ++ b ∧ (∀ x ∈ a, x ∉ c) ∧ (∀ x ∈ m, x ∈ c) ∧ (m = [] → b = []) ∧ ∀ y b', b = y :: b' → y ∉ c := by
  refine ⟨r.takeWhile (fun x => !decide (x ∈ c)), (r.dropWhile (fun x => !decide (x ∈ c))).takeWhile (fun x => decide (x ∈ c)), (r.dropWhile (fun x => !decide (x ∈ c))).dropWhile (fun x => decide (x ∈ c)), ?_, ?_, ?_, ?_, ?_⟩
  · rw [List.append_assoc, List.takeWhile_append_dropWhile, List.takeWhile_append_dropWhile]
  · intro x hx
    have := tw_mem hx
    simpa using this
  · intro x hx
    have := tw_mem hx
    simpa using this
  · intro h
    have hd := List.head?_dropWhile_not (fun x => !decide (x ∈ c)) r
    cases hh : r.dropWhile (fun x => !decide (x ∈ c)) with
    | nil => rfl
    | cons x s =>
      rw [hh] at hd h
      simp only [List.head?_cons, Bool.not_eq_eq_eq_not, Bool.not_true, Bool.not_eq_false'] at hd
      rw [List.takeWhile_cons] at h
      have hx : decide (x ∈ c) = true := by simpa using hd
      rw [if_pos hx] at h
      cases h
  · intro y b' h
    have hd := List.head?_dropWhile_not (fun x => decide (x ∈ c)) (r.dropWhile (fun x => !decide (x ∈ c)))
    rw [h] at hd
    simpa using hd
theorem tog_iff {c r : List Int} : tog c r = true ↔ Conv (InC c) r := by
  obtain ⟨a, m, b, e, ha, hm, hmb, hb⟩ := parted c r
  have ep : places c r = plcs c a.length m ++ plcs c (a.length + m.length) b := by
    rw [places_eq, e, plcs_append, plcs_append, plcs_out ha, List.nil_append, Nat.zero_add, List.length_append]
    rw [Nat.zero_add]
  obtain ⟨i1, i2⟩ := plcs_in (k := a.length) hm
  have first : m ≠ [] → ∃ ps, plcs c a.length m = (a.length : Int) :: ps := fun h => by
    cases m with
    | nil => exact absurd rfl h
    | cons x m => exact ⟨_, by rw [plcs, if_pos (hm x List.mem_cons_self)]⟩
  -- b has none of c
  have fin : (∀ x ∈ b, x ∉ c) → Conv (InC c) r := fun h => by
    rw [e]
    exact Conv.block (Conv.all hm) ha h
  constructor
  · intro h
    by_cases hm0 : m = []
    · have hb0 := hmb hm0
      exact fin (by rw [hb0]; simp)
    · obtain ⟨ps, hps⟩ := first hm0
      cases hbb : b with
      | nil => exact fin (by rw [hbb]; simp)
      | cons y b' =>
        have hy := hb y b' hbb
        by_cases q : plcs c (a.length + m.length + 1) b' = []
        · refine fin fun x hx hxc => ?_
          rw [hbb] at hx
          rcases List.mem_cons.mp hx with ex | hx
          · rw [ex] at hxc; exact hy hxc
          · have some : ∀ {k : Nat} {l : List Int}, x ∈ l → plcs c k l ≠ [] := by
              intro k l
              induction l generalizing k with
              | nil => intro h; simp at h
              | cons z l ih =>
                intro h
                rw [plcs]
                split
                · simp
                · rename_i hz
                  rcases List.mem_cons.mp h with e | h
                  · rw [e] at hxc; exact absurd hxc hz
                  · exact ih h
            exact some hx q
        · exfalso
          have eb : plcs c (a.length + m.length) b = plcs c (a.length + m.length + 1) b' := by rw [hbb, plcs, if_neg hy]
          have L := plcs_last q
          unfold tog at h
          have et : places c r = (a.length : Int) :: (ps ++ plcs c (a.length + m.length + 1) b') := by rw [ep, eb, hps]; rfl
          have key : (places c r).getLast (by rw [et]; simp) = (plcs c (a.length + m.length + 1) b').getLast q := by
            have : places c r = plcs c a.length m ++ plcs c (a.length + m.length + 1) b' := by rw [ep, eb]
            simp only [this]
            rw [List.getLast_append_of_ne_nil]
          have kl : (places c r).length = m.length + (plcs c (a.length + m.length + 1) b').length := by rw [ep, eb, List.length_append, i1]
          rw [et] at h
          simp only [et] at key kl
          have h' := of_decide_eq_true h
          rw [key, kl] at h'
          have hl : 0 < (plcs c (a.length + m.length + 1) b').length := List.length_pos_iff.mpr q
          omega
  · intro h
    have hbn : ∀ z ∈ b, z ∉ c := by
      intro z hz hzc
      by_cases hm0 : m = []
      · rw [hmb hm0] at hz; simp at hz
      · cases hbb : b with
        | nil => rw [hbb] at hz; simp at hz
        | cons y b' =>
          have hy := hb y b' hbb
          rw [hbb] at hz
          rcases List.mem_cons.mp hz with ez | hz
          · rw [ez] at hzc; exact hy hzc
          · cases hmm : m with
            | nil => exact hm0 hmm
            | cons x m' =>
              have sub : [x, y, z].Sublist r := by
                rw [e, hmm, hbb, List.append_assoc]
                refine List.Sublist.trans ?_ (List.sublist_append_right a _)
                rw [List.cons_append]
                refine List.Sublist.cons_cons x ?_
                refine List.Sublist.trans ?_ (List.sublist_append_right m' _)
                exact List.Sublist.cons_cons y (List.singleton_sublist.mpr hz)
              exact hy (h x y z sub (hm x (by rw [hmm]; exact List.mem_cons_self)) hzc)
    rw [plcs_out hbn, List.append_nil] at ep
    unfold tog
    by_cases hm0 : m = []
    · have : places c r = [] := by rw [ep, hm0]; rfl
      rw [this]
    · obtain ⟨ps, hps⟩ := first hm0
      have et : places c r = (a.length : Int) :: ps := by rw [ep, hps]
      rw [et]
      refine decide_eq_true ?_
      have k2 := i2 (by rw [hps]; simp)
      simp only [hps] at k2 i1
      rw [k2, i1]
      omega

/-- each once, in their order -/
def dd (l : List (List Int)) : List (List Int) := l.foldl (fun acc c => if c ∈ acc then acc else acc ++ [c]) []
theorem dd_from : ∀ (l acc : List (List Int)), acc.Nodup → ∃ s, l.foldl (fun acc c => if c ∈ acc then acc else acc ++ [c]) acc = acc ++ s ∧ s.Sublist l ∧ (acc ++ s).Nodup ∧ ∀ c, c ∈ acc ++ s ↔ c ∈ acc ∨ c ∈ l
  | [], acc, h => ⟨[], by simp, .refl _, by simpa using h, by simp⟩
  | x :: l, acc, h => by
    rw [List.foldl_cons]
    by_cases q : x ∈ acc
    · rw [if_pos q]
      obtain ⟨s, e, h1, h2, h3⟩ := dd_from l acc h
      refine ⟨s, e, h1.cons _, h2, fun c => ?_⟩
      rw [h3 c, List.mem_cons]
      constructor
      · rintro (h | h)
        · exact .inl h
        · exact .inr (.inr h)
      · rintro (h | rfl | h)
        · exact .inl h
        · exact .inl q
        · exact .inr h
    · rw [if_neg q]
      have hn : (acc ++ [x]).Nodup := List.nodup_append.mpr ⟨h, by simp, fun a ha b hb e => by
        rw [List.mem_singleton.mp hb] at e
        exact q (e ▸ ha)⟩
      obtain ⟨s, e, h1, h2, h3⟩ := dd_from l (acc ++ [x]) hn
      refine ⟨x :: s, by rw [e]; simp, h1.cons_cons _, by simpa using h2, fun c => ?_⟩
      have := h3 c
      simp only [List.append_assoc, List.singleton_append] at this
      rw [this, List.mem_append, List.mem_singleton, List.mem_cons, or_assoc]
theorem dd_nodup (l : List (List Int)) : (dd l).Nodup := by
  obtain ⟨s, e, _, h, _⟩ := dd_from l [] List.nodup_nil
  unfold dd
  rw [e]
  exact h
theorem mem_dd {l : List (List Int)} {c : List Int} : c ∈ dd l ↔ c ∈ l := by
  obtain ⟨s, e, _, _, h⟩ := dd_from l [] List.nodup_nil
  unfold dd
  rw [e, h c]
  simp
theorem dd_sub (l : List (List Int)) : (dd l).Sublist l := by
  obtain ⟨s, e, h, _, _⟩ := dd_from l [] List.nodup_nil
  unfold dd
  rw [e]
  exact h
theorem dd_len (l : List (List Int)) : (dd l).length ≤ l.length := (dd_sub l).length_le
/-- the program's answer -/
def sets (t : Tr) : List (List Int) := srtT (dd (toldBy t))
theorem mem_sets {t : Tr} {c : List Int} : c ∈ sets t ↔ Told t c := by
  unfold sets
  rw [(srtT_perm _).mem_iff, mem_dd, mem_toldBy]
theorem sets_sorted (t : Tr) : (sets t).Pairwise (· < ·) := strict_of (srtT_sorted _) ((srtT_perm _).nodup_iff.mpr (dd_nodup _))
/-- the law's -/
theorem due_eq (t : Tr) : dd (srtT (lawTold t)) = sets t := by
  refine sorted_ext (strict_of (List.Pairwise.sublist (dd_sub _) (srtT_sorted _)) (dd_nodup _)) (sets_sorted t) fun c => ?_
  rw [mem_dd, (srtT_perm _).mem_iff, mem_lawTold, mem_sets]
theorem rows_law {t : Tr} {n : Nat} (ok : Ok t) (hp : (leaves t).Perm (rng n)) : (orders (rng n)).filter (fun r => (sets t).all fun c => tog c r) = srtT (rows t) := by
  have hn : (leaves t).Nodup := hp.nodup_iff.mpr (rng_nodup n)
  refine sorted_ext ((orders_sorted n).filter _) (strict_of (srtT_sorted _) ((srtT_perm _).nodup_iff.mpr (rows_nodup t ok hn))) fun r => ?_
  rw [List.mem_filter, mem_orders, (srtT_perm _).mem_iff, List.all_eq_true]
  constructor
  · rintro ⟨h1, h2⟩
    exact rows_all t ok hn r (h1.trans hp.symm) fun c hc => tog_iff.mp (h2 c (mem_sets.mpr hc))
  · intro h
    exact ⟨(rows_perm t r h).trans hp, fun c hc => tog_iff.mpr (rows_keep t hn r h c (mem_sets.mp hc))⟩

/-! sizes -/
theorem ords_len : ∀ k, k ≤ 5 → (orders (rng k)).length ≤ 3 ^ k
  | 0, _ => by decide +kernel
  | 1, _ => by decide +kernel
  | 2, _ => by decide +kernel
  | 3, _ => by decide +kernel
  | 4, _ => by decide +kernel
  | 5, _ => by decide +kernel
  | n + 6, h => absurd h (by omega)
theorem placeOrds_len {b : Bool} {k : Nat} (h1 : 2 ≤ k) (h : k ≤ 5) : (placeOrds b k).length ≤ 3 ^ k := by
  cases b with
  | false => exact ords_len k h
  | true =>
    show 2 ≤ 3 ^ k
    have : 3 ^ 1 ≤ 3 ^ k := Nat.pow_le_pow_right (by decide) (by omega)
    omega
theorem join_len : ∀ (Rs : List (List (List Int))) (acc : List (List Int)), (Rs.foldl (fun acc R => acc.flatMap fun row => R.map fun part => row ++ part) acc).length = acc.length * (Rs.map List.length).foldr (· * ·) 1
  | [], acc => by simp
  | R :: Rs, acc => by
    have e : (acc.flatMap fun row => R.map fun part => row ++ part).length = acc.length * R.length := by
      rw [List.length_flatMap]
      simp only [List.length_map]
      induction acc with
      | nil => simp
      | cons a acc ih => rw [List.map_cons, List.sum_cons, ih, List.length_cons, Nat.succ_mul, Nat.add_comm]
    rw [List.foldl_cons, join_len Rs _, e, List.map_cons, List.foldr_cons, Nat.mul_assoc]
theorem joinR_len (Rs : List (List (List Int))) : (joinR Rs).length = (Rs.map List.length).foldr (· * ·) 1 := by
  unfold joinR
  rw [join_len]
  simp
theorem prod_len : ∀ ts : List Tr, (∀ t ∈ ts, (rows t).length * 3 ≤ 3 ^ parts t) → (joinR (ts.map rows)).length * 3 ^ ts.length ≤ 3 ^ partsL ts
  | [], _ => by simp [joinR_len, partsL]
  | t :: ts, h => by
    have h1 := h t List.mem_cons_self
    have h2 := prod_len ts fun t ht => h t (List.mem_cons_of_mem _ ht)
    rw [joinR_len] at h2 ⊢
    rw [List.map_cons, List.map_cons, List.foldr_cons, partsL, List.length_cons, Nat.pow_succ, Nat.pow_add]
    have := Nat.mul_le_mul h1 h2
    refine Nat.le_trans (Nat.le_of_eq ?_) this
    simp only [Nat.mul_assoc, Nat.mul_comm, Nat.mul_left_comm]
theorem partsL_perm {xs ys : List Tr} (h : xs.Perm ys) : partsL xs = partsL ys := by
  induction h with
  | nil => rfl
  | cons x _ ih => rw [partsL, partsL, ih]
  | swap x y l => simp only [partsL]; omega
  | trans _ _ i1 i2 => exact i1.trans i2
theorem flat_le {α β : Type} (f : α → List β) (B : Nat) : ∀ l : List α, (∀ a ∈ l, (f a).length ≤ B) → (l.flatMap f).length ≤ l.length * B
  | [], _ => by simp
  | a :: l, h => by
    rw [List.flatMap_cons, List.length_append, List.length_cons, Nat.succ_mul]
    have h1 := h a List.mem_cons_self
    have h2 := flat_le f B l fun a ha => h a (List.mem_cons_of_mem _ ha)
    omega
mutual
theorem rows_len : ∀ t : Tr, Ok t → (leaves t).length ≤ 5 → (rows t).length * 3 ≤ 3 ^ parts t
  | .leaf i, _, _ => by simp [rows, parts]
  | .node b cs, ok, h5 => by
    rw [Ok] at ok
    rw [leaves] at h5
    have h2 : 2 ≤ cs.length := by
      have := ok.1
      cases b <;> simp at this <;> omega
    have h3 := (deepL_lt cs ok.2).1
    have e : ∀ o ∈ placeOrds b cs.length, (joinR (o.map fun k => (rowsL cs).getD k.toNat [])).length ≤ 3 ^ partsL cs / 3 ^ cs.length := fun o ho => by
      have hp := places_perm ho
      have em : (o.map fun k => (rowsL cs).getD k.toNat []) = (o.map (kid cs)).map rows := by
        rw [List.map_map]
        exact List.map_congr_left fun k hk => rows_kid (hp.mem_iff.mp hk)
      rw [em]
      have pp : (o.map (kid cs)).Perm cs := by
        have := hp.map (kid cs)
        rw [kids_all] at this
        exact this
      have q := prod_len (o.map (kid cs)) fun t ht => rowsL_len cs ok.2 h5 t (pp.mem_iff.mp ht)
      rw [partsL_perm pp, pp.length_eq] at q
      exact (Nat.le_div_iff_mul_le (Nat.pow_pos (by decide))).mpr q
    have h4 := flat_le _ _ _ e
    have h6 := placeOrds_len (b := b) h2 (by omega)
    rw [rows, parts, Nat.pow_succ]
    refine Nat.mul_le_mul_right 3 (Nat.le_trans h4 (Nat.le_trans (Nat.mul_le_mul_right _ h6) ?_))
    exact Nat.mul_div_le _ _
theorem rowsL_len : ∀ cs : List Tr, OkL cs → (leavesL cs).length ≤ 5 → ∀ t ∈ cs, (rows t).length * 3 ≤ 3 ^ parts t
  | d :: ds, ok, h5, t, ht => by
    rw [OkL] at ok
    rw [leavesL, List.length_append] at h5
    rcases List.mem_cons.mp ht with e | ht
    · rw [e]; exact rows_len d ok.1 (by omega)
    · exact rowsL_len ds ok.2 (by omega) t ht
end

/-! fits -/
inductive Fit : Tr → List Int → Prop
  | whole {t : Tr} : Fit t (srt (leaves t))
  | into {b : Bool} {pre post : List Tr} {d : Tr} {c : List Int} (h1 : ∀ e ∈ pre, ¬ ∀ x ∈ c, x ∈ leaves e) (h2 : ∀ x ∈ c, x ∈ leaves d) (h3 : Fit d c) : Fit (.node b (pre ++ d :: post)) c
  | seg {pre mid post : List Tr} (h0 : mid ≠ []) (h1 : ∀ e ∈ pre ++ (mid ++ post), ¬ ∀ x ∈ srt (leavesL mid), x ∈ leaves e) : Fit (.node true (pre ++ (mid ++ post))) (srt (leavesL mid))
theorem same_kid {cs : List Tr} (hn : (leavesL cs).Nodup) {u v : Tr} {x : Int} (hu : u ∈ cs) (hv : v ∈ cs) (h1 : x ∈ leaves u) (h2 : x ∈ leaves v) : u = v := by
  obtain ⟨pre, post, rfl⟩ := List.append_of_mem hu
  obtain ⟨a1, a2⟩ := apart hn
  rcases List.mem_append.mp hv with h | h
  · exact absurd h1 (a1 x (leaves_sub h h2))
  · rcases List.mem_cons.mp h with h | h
    · exact h.symm
    · exact absurd h1 (a2 x (leaves_sub h h2))
theorem nodup_kid {cs : List Tr} (hn : (leavesL cs).Nodup) {u : Tr} (hu : u ∈ cs) : (leaves u).Nodup := by
  obtain ⟨pre, post, rfl⟩ := List.append_of_mem hu
  rw [leavesL_append, leavesL] at hn
  exact (List.nodup_append.mp (List.nodup_append.mp hn).2.1).1
theorem told_fit {t : Tr} {c : List Int} (h : Told t c) : Ok t → (leaves t).Nodup → Fit t c := by
  induction h with
  | @child b cs d h hl =>
    intro ok hn
    rw [leaves] at hn
    rw [Ok] at ok
    have okd := (OkL_iff cs).mp ok.2
    obtain ⟨x, hx⟩ := List.exists_mem_of_ne_nil _ (leaves_ne d (okd d h))
    obtain ⟨pre, post, rfl⟩ := List.append_of_mem h
    refine .into (fun e he q => ?_) (fun x hx => mem_srt.mp hx) .whole
    exact (apart hn).1 x (leaves_sub he (q x (mem_srt.mpr hx))) hx
  | @under b cs d c h hd ih =>
    intro ok hn
    rw [leaves] at hn
    rw [Ok] at ok
    have okd := (OkL_iff cs).mp ok.2
    have nd := nodup_kid hn h
    have fd := ih (okd d h) nd
    obtain ⟨x, hx⟩ := List.exists_mem_of_ne_nil _ (told_ne hd (okd d h))
    obtain ⟨pre, post, rfl⟩ := List.append_of_mem h
    refine .into (fun e he q => ?_) (fun x hx => told_mem hd x hx) fd
    exact (apart hn).1 x (leaves_sub he (q x hx)) (told_mem hd x hx)
  | @pair pre post d e =>
    intro ok hn
    rw [leaves] at hn
    rw [Ok] at ok
    have okd := (OkL_iff _).mp ok.2
    have em : leavesL [d, e] = leaves d ++ leaves e := by simp [leavesL]
    obtain ⟨x, hx⟩ := List.exists_mem_of_ne_nil _ (leaves_ne d (okd d (by simp)))
    obtain ⟨y, hy⟩ := List.exists_mem_of_ne_nil _ (leaves_ne e (okd e (by simp)))
    have dn := leaves_inj hn fun t ht => leaves_ne t (okd t ht)
    have ne : d ≠ e := fun q => by
      subst q
      have := (List.nodup_append.mp dn).2.1
      simp at this
    have := Fit.seg (pre := pre) (mid := [d, e]) (post := post) (by simp) (fun f hf q => by
      have hf' : f ∈ pre ++ d :: e :: post := hf
      have q1 := q x (mem_srt.mpr (by rw [em]; exact List.mem_append_left _ hx))
      have q2 := q y (mem_srt.mpr (by rw [em]; exact List.mem_append_right _ hy))
      exact ne ((same_kid hn hf' (by simp) q1 hx).symm.trans (same_kid hn hf' (by simp) q2 hy)))
    rw [em] at this
    exact this
theorem srt_strict {l : List Int} (h : l.Nodup) : (srt l).Pairwise (· < ·) := by
  have h1 := (srt_sorted l).and ((srt_perm l).nodup_iff.mpr h)
  exact h1.imp fun {a b} q => by have := q.1; have := q.2; omega
theorem told_strict {t : Tr} {c : List Int} (h : Told t c) : (leaves t).Nodup → c.Pairwise (· < ·) := by
  induction h with
  | @child b cs d h hl =>
    intro hn
    rw [leaves] at hn
    exact srt_strict (nodup_kid hn h)
  | under h hd ih =>
    intro hn
    rw [leaves] at hn
    exact ih (nodup_kid hn h)
  | @pair pre post d e =>
    intro hn
    rw [leaves] at hn
    refine srt_strict ?_
    rw [leavesL_append, leavesL, leavesL] at hn
    have := (List.nodup_append.mp hn).2.1
    rw [← List.append_assoc] at this
    exact (List.nodup_append.mp this).1
theorem told_len {t : Tr} {c : List Int} (h : Told t c) : c.length ≤ (leaves t).length := by
  have sub : ∀ {d : Tr} {cs : List Tr}, d ∈ cs → (leaves d).length ≤ (leavesL cs).length := fun {d cs} h => by
    obtain ⟨pre, post, rfl⟩ := List.append_of_mem h
    rw [leavesL_append, leavesL, List.length_append, List.length_append]
    omega
  induction h with
  | @child b cs d h hl => rw [length_srt, leaves]; exact sub h
  | under h hd ih => rw [leaves]; exact Nat.le_trans ih (sub h)
  | @pair pre post d e =>
    rw [length_srt, leaves, leavesL_append, leavesL, leavesL]
    simp only [List.length_append]
    omega
end Kt
end
/-! ## KtRules -/
namespace Kt
open PySem L2 PyProof.Rows
/-! tuples of ints in the heap -/
def TupV (H : Hp) (v : V) (c : List Int) : Prop := ∃ a, v = .ref a ∧ H a = some (.tup (c.map V.int))
abbrev TupsAt (H : Hp) (vs : List V) (cs : List (List Int)) : Prop := Paired (TupV H) vs cs
def Tups (H H' : Hp) : Prop := ∀ b xs, H b = some (.tup xs) → H' b = some (.tup xs)
theorem Tups.refl (H : Hp) : Tups H H := fun _ _ h => h
theorem Tups.trans {H H1 H2 : Hp} (a : Tups H H1) (b : Tups H1 H2) : Tups H H2 := fun c o h => b c o (a c o h)
theorem tups_same {H H' : Hp} (s : Same H H') : Tups H H' := fun b xs h => s b _ h
theorem TupV.keep {H H' : Hp} {v : V} {c : List Int} (s : Tups H H') : TupV H v c → TupV H' v c := fun ⟨a, e, h⟩ => ⟨a, e, s _ _ h⟩
theorem TupsAt.keep {H H' : Hp} {vs : List V} {cs : List (List Int)} (s : Tups H H') (h : TupsAt H vs cs) : TupsAt H' vs cs := Paired.mapP h fun _ _ q => q.keep s
theorem paired_app {α β : Type} {F : α → β → Prop} : ∀ {a b : List α} {c d : List β}, Paired F a c → Paired F b d → Paired F (a ++ b) (c ++ d)
  | _, _, _, _, .nil, h => h
  | _, _, _, _, .cons r t, h => .cons r (paired_app t h)
theorem paired_get {α β : Type} {F : α → β → Prop} : ∀ {a : List α} {c : List β} {i : Nat} {x : α}, Paired F a c → a[i]? = some x → ∃ y, c[i]? = some y ∧ F x y
  | _, _, 0, x, .cons r t, h => by
    simp at h
    exact ⟨_, by simp, h ▸ r⟩
  | _, _, i + 1, x, .cons r t, h => by
    obtain ⟨y, h1, h2⟩ := paired_get (i := i) t (by simpa using h)
    exact ⟨y, by simpa using h1, h2⟩
theorem paired_take {α β : Type} {F : α → β → Prop} : ∀ {a : List α} {c : List β} (n : Nat), Paired F a c → Paired F (a.take n) (c.take n)
  | _, _, 0, _ => by simp; exact .nil
  | _, _, n + 1, .nil => by simp; exact .nil
  | _, _, n + 1, .cons r t => by simp only [List.take_succ_cons]; exact .cons r (paired_take n t)
theorem dp_ints (K : PySem.W.Frag) (H : Hp) : ∀ c : List Int, DpAll K H (c.map V.int) (c.map PyData.int)
  | [] => .nil
  | x :: c => .cons (.int x) (dp_ints K H c)
abbrev tupD (c : List Int) : PyData := .tuple (c.map PyData.int)
theorem dp_tup {K : PySem.W.Frag} {H : Hp} {v : V} {c : List Int} (h : TupV H v c) : Dp K H v (tupD c) := by
  obtain ⟨a, rfl, h⟩ := h
  exact .tup (SqT.of h) (dp_ints K H c)
theorem dp_tups {K : PySem.W.Frag} {H : Hp} : ∀ {vs : List V} {cs : List (List Int)}, TupsAt H vs cs → DpAll K H vs (cs.map tupD)
  | _, _, .nil => .nil
  | _, _, .cons h t => .cons (dp_tup h) (dp_tups t)
theorem lay_ints : ∀ c : List Int, PyData.canLayAll0 (c.map PyData.int) = true
  | [] => by simp [PyData.canLayAll0]
  | x :: c => by simp [PyData.canLayAll0, PyData.canLay0, lay_ints c]
theorem lay_tups : ∀ cs : List (List Int), PyData.canLayAll0 (cs.map tupD) = true
  | [] => by simp [PyData.canLayAll0]
  | c :: cs => by simp [PyData.canLayAll0, PyData.canLay0, lay_ints c, lay_tups cs]
theorem tupD_depth (c : List Int) : (tupD c).depth = 1 := by
  have := PySem.W.depth_ints c
  simp only [tupD, PyData.depth]
  omega
theorem tups_depth : ∀ cs : List (List Int), PyData.depthAll (cs.map tupD) ≤ 1
  | [] => by simp [PyData.depthAll]
  | c :: cs => by
    have h1 := tups_depth cs
    have h2 := tupD_depth c
    simp only [List.map_cons, PyData.depthAll]
    omega
theorem tupD_shaped (c : List Int) : SeqAt.shaped (tupD c) = true := by
  have h := tupD_depth c
  refine Bool.and_eq_true_iff.mpr ⟨?_, decide_eq_true (by omega)⟩
  simp only [tupD, PyData.canLay0]
  exact lay_ints c
theorem tups_shaped (cs : List (List Int)) : SeqAt.shaped (.list (cs.map tupD)) = true := by
  have h := tups_depth cs
  refine Bool.and_eq_true_iff.mpr ⟨?_, decide_eq_true ?_⟩
  · simp only [PyData.canLay0]
    exact lay_tups cs
  · simp only [PyData.depth]
    omega
theorem ints_shaped (c : List Int) : SeqAt.shaped (.list (c.map PyData.int)) = true := by
  have h := PySem.W.depth_ints c
  refine Bool.and_eq_true_iff.mpr ⟨?_, decide_eq_true ?_⟩
  · simp only [PyData.canLay0]
    exact lay_ints c
  · simp only [PyData.depth]
    omega
theorem eqv_ints : ∀ a b : List Int, PyData.eqvAll (a.map PyData.int) (b.map PyData.int) = decide (a = b)
  | [], [] => by simp [PyData.eqvAll]
  | [], y :: b => by simp [PyData.eqvAll]
  | x :: a, [] => by simp [PyData.eqvAll]
  | x :: a, y :: b => by
    simp only [List.map_cons, PyData.eqvAll, PyData.eqv, eqv_ints a b]
    by_cases h : x = y <;> by_cases h' : a = b <;> simp [h, h']
theorem eqv_tup (a b : List Int) : PyData.eqv (tupD a) (tupD b) = decide (a = b) := by
  simp only [tupD, PyData.eqv]
  exact eqv_ints a b
theorem eqv_tups : ∀ a b : List (List Int), PyData.eqvAll (a.map tupD) (b.map tupD) = decide (a = b)
  | [], [] => by simp [PyData.eqvAll]
  | [], y :: b => by simp [PyData.eqvAll]
  | x :: a, [] => by simp [PyData.eqvAll]
  | x :: a, y :: b => by
    rw [List.map_cons, List.map_cons, PySem.W.eqv_all_cons, eqv_tup, eqv_tups a b]
    by_cases h : x = y <;> by_cases h' : a = b <;> simp [h, h']

/-! sorted(a list of tuples of ints) -/
theorem le_tups : PySem.W.dataLe false tupD = fun p q : List Int => decide (p ≤ q) := by
  funext p q
  have e : PySem.W.dataLt (tupD q) (tupD p) = decide (q < p) := (PySem.W.dataLt_tuple _ _).trans (PySem.W.dataLt_ints q p)
  show (!PySem.W.dataLt (tupD q) (tupD p)) = decide (p ≤ q)
  rw [e]
  by_cases h : q < p
  · have n : ¬ p ≤ q := fun r => List.not_lt.mpr r h
    simp [h, n]
  · have y : p ≤ q := List.not_lt.mp h
    simp [h, y]
theorem reads_ints {h : Heap} : ∀ {c : List Int} {us : List Value}, Vals (c.map V.int) us → ReadsAll h us (c.map PyData.int) []
  | [], _, r => by cases r; exact .nil
  | x :: c, _, r => by
    cases r with
    | cons r1 r2 =>
      obtain ⟨t, rfl⟩ := r1
      exact .cons (as := []) (.int x t) (reads_ints r2)
section
variable {X : Cx} {pins : List (Addr × Obj)} {σ : L2.St} {H : Hp} {s : Shared}
theorem reads_tup (I : Inv X pins σ H s) {v : V} {u : Value} {c : List Int} (h : TupV H v c) (r : RelV v u) : Reads s.heap u (tupD c) [] := by
  obtain ⟨a, rfl, h⟩ := h
  obtain rfl : u = Value.ref a := r
  obtain ⟨its, rv, ⟨o, ho, hc, n, hd⟩, _⟩ := I.tuple (SqT.of h)
  exact .tuple ho hc hd (reads_ints rv)
theorem each_tups (I : Inv X pins σ H s) : ∀ {vs : List V} {us : List Value} {cs : List (List Int)}, TupsAt H vs cs → Vals vs us → PySem.W.EachIs (fun u c => (∃ v, RelV v u ∧ TupV H v c) ∧ Reads s.heap u (tupD c) []) us cs
  | _, _, _, .nil, r => by cases r; exact .nil
  | _, _, _, .cons h t, r => by
    cases r with
    | cons r1 r2 => exact .cons ⟨⟨_, r1, h⟩, reads_tup I h r1⟩ (each_tups I t r2)
theorem tups_back : ∀ {us : List Value} {cs : List (List Int)}, PySem.W.EachIs (fun u c => ∃ v, RelV v u ∧ TupV H v c) us cs → ∃ vs, Vals vs us ∧ TupsAt H vs cs
  | _, _, .nil => ⟨[], .nil, .nil⟩
  | _, _, .cons ⟨v, r, h⟩ t => by
    obtain ⟨vs, a, b⟩ := tups_back t
    exact ⟨v :: vs, .cons r a, .cons h b⟩
theorem alike_tups (cs : List (List Int)) : PySem.W.AllAlike (cs.map tupD) := PySem.W.AllAlike.of fun a b => by
  simp only [tupD, PySem.W.alike]
  exact PySem.W.alike_ints a b
theorem sortable_tups {cs : List (List Int)} (h : ∀ c ∈ cs, c ≠ []) : PySem.W.Sortable (cs.map tupD) := .inl fun d hd => by
  obtain ⟨c, hc, rfl⟩ := List.mem_map.mp hd
  cases c with
  | nil => exact absurd rfl (h _ hc)
  | cons x c => exact ⟨_, _, rfl⟩
/-- a new list of the same tuples, in their order -/
def rSortTups (K : PySem.W.Frag) : List V → Hp → VK → Prop := fun vs H Q => ∃ (a : Addr) (xs : List V) (cs : List (List Int)), vs = [V.ref a] ∧ SqL K H a xs ∧ TupsAt H xs cs ∧ (∀ c ∈ cs, c ≠ []) ∧
  ∀ ys p, TupsAt H ys (srtT cs) → H p = none → Q (.ref p) (upd H p (.lst ys))
theorem cr_sortTups (hu : X.A.units + 64 < cLine) : CallR X (.builtin "sorted") (rSortTups X.K) := by
  intro pins s σ H vs us Q I r h
  obtain ⟨a, xs, cs, rfl, hs, ht, hne, q⟩ := h
  obtain ⟨its, rv, hl, hz⟩ := I.list hs
  rw [Vals.ref1 r]
  have ea := each_tups I ht rv
  refine PySem.W.sorted_data (R := fun u c => ∃ v, RelV v u ∧ TupV H v c) (enc := tupD) hl.isList (ea.mono fun _ _ q => q.1) (ea.mono fun _ _ q => ⟨_, q.2⟩) (alike_tups cs) (sortable_tups hne) (by rw [← Paired.length ht]; exact hz) (fun c _ => by rw [tupD_depth]; show X.A.units + 2 + 1 < cLine; omega) fun out ho eo => ?_
  rw [le_tups] at eo
  obtain ⟨ys, hv, hy⟩ := tups_back eo
  obtain ⟨ep, he⟩ := sortedAll_at s.heap its out.toArray
  have hlen : ys.length ≤ sizeLine := by rw [hv.length, ho, ← Paired.length ht]; exact hz
  exact ⟨.ref _, upd H (s.heap.objs.size + 1) (.lst ys), I.laid (t' := s.toks) (fun _ _ => sortedAll_old) (Nat.le_succ _) ⟨hlen, out, ep, hv, he⟩, rfl, q ys _ hy (I.hok.fresh (Nat.le_succ _))⟩

/-! sorted(a dict whose keys are tuples of ints) -/
def tKeys (cs : List (List Int)) : List (List L2.Key × V) := cs.map fun c => (c.map Sum.inl, V.bl true)
theorem keys_ints (c : List Int) : (c.map (Sum.inl : Int → L2.Key)).map kV = c.map V.int := by
  rw [List.map_map]
  rfl
theorem keys_at {H : Hp} : ∀ {cs : List (List Int)} {bs : List Addr}, IsKeys H (tKeys cs) bs → TupsAt H (bs.map V.ref) cs
  | [], _, h => by
    have h' : Paired _ [] _ := h
    cases h'
    exact .nil
  | c :: cs, _, h => by
    have h' : Paired _ ((c.map Sum.inl, V.bl true) :: tKeys cs) _ := h
    cases h' with
    | cons a t =>
      refine .cons ⟨_, rfl, ?_⟩ (keys_at t)
      rw [← keys_ints]
      exact a
def rSortKeys : List V → Hp → VK → Prop := fun vs H Q => ∃ (a : Addr) (cs : List (List Int)), vs = [V.ref a] ∧ H a = some (.dT (tKeys cs)) ∧ (∀ c ∈ cs, c ≠ []) ∧
  ∀ ys p, TupsAt H ys (srtT cs) → H p = none → Q (.ref p) (upd H p (.lst ys))
theorem cr_sortKeys (hc : X.calm = true) (hu : X.A.units + 64 < cLine) : CallR X (.builtin "sorted") rSortKeys := by
  intro pins s σ H vs us Q I r h
  obtain ⟨d, cs, rfl, hd, hne, q⟩ := h
  rw [Vals.ref1 r]
  obtain ⟨z, hs, ks, pr, o, es, ep, ho, hx, hdt, he, hn⟩ := (show ObjOk X.prog X.w H s.heap d (.dT (tKeys cs)) from I.hok d _ hd)
  have l1 : es.size = ks.length := by
    have := congrArg List.length he
    simpa using this
  have l2 : (tKeys cs).length = ks.length := Paired.length pr
  refine Calls.call_function_entry kind_sorted plain_sorted entry_sorted (args_sorted1 _) ?_
  unfold Builtin.«sorted»
  refine wpAny_bind (m := checkCount "sorted" 1 1 _) (wpAny_pure ?_)
  refine wpAny_bind (PySem.W.kdu_collect (A := X.A.in1) (kdl_raw hs hx hdt) (I.ok.hd hc) ho (by omega) fun h' tk acc kp it => ?_)
  have ea : acc.toList = ks.map fun x => Value.ref x.2.1 := by
    have hl : acc.toList.length = ks.length := by rw [Array.length_toList, it.1]; exact l1
    refine List.ext_getElem? fun j => ?_
    by_cases hj : j < ks.length
    · obtain ⟨en, hen, hv⟩ := it.2 j acc.toList[j] (by rw [← Array.getElem?_toList, List.getElem?_eq_getElem (by omega)])
      have qe : es.toList[j]? = some en := by rw [Array.getElem?_toList]; exact hen
      rw [he, List.getElem?_map, List.getElem?_eq_getElem hj] at qe
      have e2 := Option.some.inj qe
      rw [List.getElem?_eq_getElem (by omega), List.getElem?_map, List.getElem?_eq_getElem hj, hv, ← e2]
      rfl
    · rw [List.getElem?_eq_none (by omega), List.getElem?_eq_none (by rw [List.length_map]; omega)]
  have I1 : Inv X pins σ H { s with heap := h', toks := tk } := I.kept kp
  have eb : acc.toList = (ks.map fun x => x.2.1).map Value.ref := by rw [ea, List.map_map]; rfl
  have rv : Vals ((ks.map fun x => x.2.1).map V.ref) acc.toList := by rw [eb]; exact vals_refs _
  have ht : TupsAt H ((ks.map fun x => x.2.1).map V.ref) cs := keys_at (isKeys_of pr)
  have hal : acc.toList.length ≤ sizeLine := by rw [← rv.length, Paired.length ht]; have := l2; unfold tKeys at z; rw [List.length_map] at z; exact z
  refine wpAny_bind (wpAny_newList ?_ hal)
  have hoL : (h'.push (seqObj "list" acc.toList.toArray 0)).get? h'.objs.size = some (seqObj "list" acc.toList.toArray 0) := Heap.get?_push_size _ rfl
  have I2 : Inv X pins σ H { s with heap := h'.push (seqObj "list" acc.toList.toArray 0), toks := tk } := I1.kept fun b u e => Heap.get?_push_of_some _ e
  show wpAny _ _ _ _ _ { s with heap := h'.push (seqObj "list" acc.toList.toArray 0), toks := tk }
  have ea2 := each_tups I2 ht rv
  refine wpAny_bind (wpAny_holding (PySem.W.list_sort_data (s := { s with heap := h'.push (seqObj "list" acc.toList.toArray 0), toks := tk }) (R := fun u c => ∃ v, RelV v u ∧ TupV H v c) (enc := tupD) hoL (ea2.mono fun _ _ q => q.1) (ea2.mono fun _ _ q => ⟨[], q.2, by simp⟩) (alike_tups cs) (sortable_tups hne) (by rw [← Paired.length ht, rv.length]; exact hal) (fun c _ => by rw [tupD_depth]; show X.A.units + 1 + 1 + 1 < cLine; omega) fun out hlo eo => ?_))
  rw [le_tups] at eo
  obtain ⟨ys, hv, hy⟩ := tups_back eo
  obtain ⟨e', he'⟩ := sortedHeap_at (vs := acc.toList) (out := out.toArray) hoL
  have hlen : ys.length ≤ sizeLine := by rw [hv.length, hlo, ← Paired.length ht, rv.length]; exact hal
  refine wpAny_pure ⟨_, rfl, .ref h'.objs.size, upd H h'.objs.size (.lst ys), I1.laid (t' := tk) (fun b u e => ?_) (Nat.le_refl _) ⟨hlen, out, e', hv, he'⟩, rfl, q ys _ hy (I1.hok.fresh (Nat.le_refl _))⟩
  have hlt : b < h'.objs.size := Heap.lt_size e
  rw [sortedHeap_old (Nat.ne_of_lt hlt) (by rw [Heap.size_push]; exact Nat.lt_succ_of_lt hlt)]
  exact Heap.get?_push_of_some _ e
end
end Kt
/-! ## KtDict -/
namespace Kt
open PySem L2 PyProof.Rows
/-! {chosen: True for chosen in a list of tuples of ints} -/
theorem inl_inj : ∀ {a b : List Int}, a.map (Sum.inl : Int → L2.Key) = b.map Sum.inl → a = b
  | [], [], _ => rfl
  | [], _ :: _, h => by cases h
  | _ :: _, [], h => by cases h
  | x :: a, y :: b, h => by
    simp only [List.map_cons, List.cons.injEq, Sum.inl.injEq] at h
    rw [h.1, inl_inj h.2]
theorem put_keys (cs : List (List Int)) (c : List Int) : putK (tKeys cs) (c.map Sum.inl) (V.bl true) = tKeys (if c ∈ cs then cs else cs ++ [c]) := by
  have e : ((tKeys cs).any fun kv => decide (kv.1 = c.map Sum.inl)) = decide (c ∈ cs) := by
    unfold tKeys
    rw [List.any_map, Bool.eq_iff_iff]
    simp only [List.any_eq_true, Function.comp, decide_eq_true_eq]
    constructor
    · rintro ⟨d, hd, q⟩
      rw [← inl_inj q]
      exact hd
    · intro h
      exact ⟨c, h, rfl⟩
  unfold putK
  rw [e]
  by_cases q : c ∈ cs
  · rw [if_pos (decide_eq_true q), if_pos q]
    unfold tKeys
    rw [List.map_map]
    refine List.map_congr_left fun d _ => ?_
    show (if d.map Sum.inl = c.map Sum.inl then _ else _) = _
    split <;> rfl
  · rw [if_neg (by rw [decide_eq_false q]; exact Bool.false_ne_true), if_neg q]
    unfold tKeys
    rw [List.map_append]
    rfl
theorem dd_snoc (l : List (List Int)) (c : List Int) : dd (l ++ [c]) = if c ∈ dd l then dd l else dd l ++ [c] := by
  unfold dd
  rw [List.foldl_append]
  rfl
section
variable {X : Cx} {pins : List (Addr × Obj)} {σ : L2.St} {H : Hp} {s : Shared}
theorem dict_put {D b : Addr} {cs : List (List Int)} {c : List Int} {E : Value → Shared → Prop} {Q : Unit → Shared → Prop} (hu : X.A.units < cLine) (I : Inv X pins σ H s) (hD : H D = some (.dT (tKeys cs))) (hz : cs.length < sizeLine) (hb : H b = some (.tup (c.map V.int)))
    (h : ∀ z, Inv X pins σ (upd H D (.dT (tKeys (if c ∈ cs then cs else cs ++ [c])))) z → Heap.SameBut D s.heap z.heap → Q () z) : wpAny (model X.prog X.w) X.A (dictSet D (.ref b) (.bool true)) Q E s := by
  obtain ⟨z, lo, es, rel, dd⟩ := dt_of I.hok hD
  have hb' : H b = some (.tup ((c.map (Sum.inl : Int → L2.Key)).map kV)) := by rw [keys_ints]; exact hb
  have hl : (tKeys cs).length = cs.length := List.length_map _
  refine wpAny_dictSet_heap (hsz := by rw [← Paired.length rel]; exact z) (show (tupleKind (mixKind X.prog X.w)).room X.A from hu) (key_of I.hok hb') dd fun h' dn sb => h _ ?_ sb
  obtain ⟨o, ents, ep, g1, g2, g3, g4, _, g5⟩ := dn
  rw [← put_keys]
  have hn : (putK (tKeys cs) (c.map Sum.inl) (V.bl true)).length ≤ sizeLine := by
    have := length_putK (tKeys cs) (c.map Sum.inl) (V.bl true)
    omega
  have mu : Mut (H D) := by rw [hD]; exact True.intro
  refine d_write I mu sb ⟨o, g1⟩ ⟨hn, lo, _, KT.keeps (rel.put (c.map Sum.inl) hb' (show RelV (V.bl true) (.bool true) from rfl)) fun q ys e => ?_, o, ents, ep, g1, g2, g3, g4, g5⟩
  rw [upd_ne (ne_of e hD (fun w => nomatch w))]
  exact e
/-- what it asks -/
def tDictOf (te : TE) : TE := fun σ H Q => te σ H fun v H1 => ∃ a xs cs, v = .ref a ∧ H1 a = some (.lst xs) ∧ TupsAt H1 xs cs ∧ cs.length < sizeLine ∧ ∀ D, H1 D = none → Q (.ref D) (upd H1 D (.dT (tKeys (dd cs))))
theorem nat_lt_ne {a b : Nat} (h : a < b) : a ≠ b := Nat.ne_of_lt h
theorem pe_dictOf {x : Str} {iter : Expr} {te : TE} {scope : Scope} {p1 p2 p3 pos : Pos} {k2 : Nat} (hc : X.calm = true) (hu : X.A.units + 64 < cLine) (hi : PE X iter te) (hfree : ∀ y ∈ scope.names, y.2 ≠ .free) (hcell : ∀ y ∈ scope.names, y.2 ≠ .cell) (hkind : scope.kind = .function)
    (hnames : ∀ y ∈ scope.names, y.2 = .local → scope.names.lookup y.1 = some .local) (hx : scope.names.lookup x = some .local) (hdb : (x == ("__debug__" : Str)) = false) (hs : ∀ z, foldedSetIterable iter X.env z = pure z) :
    PE X (.DictComp (.Name x p1) (.Constant (.bool true) k2 p2) [⟨.Name x p3, iter, [], 0⟩] scope pos) (tDictOf te) := by
  refine ⟨fun pins s σ H Q I h => ?_⟩
  refine DictComp_goes (cl := []) (closureFor_none hfree) hcell hkind hnames ?_ hs
  refine wpAny_mono (hi.run pins s σ H _ I h) (fun xv s1 hv => ?_) fun _ _ z => z
  obtain ⟨v, H1, I1, rv, a, xs, cs, ev, ha, ht, hz, q⟩ := hv
  subst ev
  obtain rfl : xv = Value.ref a := rv
  obtain ⟨its, ri, hl, hzl⟩ := I1.list (SqL.of ha)
  have hlt : a < s1.heap.objs.size := I1.hok.lt ha
  refine wpAny_pyIter_list hl.isList ?_
  generalize hit : s1.heap.objs.size = it
  rw [hit] at hlt
  generalize hs2 : ({ s1 with heap := s1.heap.push { cls := .type "list_iterator", data := .fields #[.ref a, .int 0 0] } } : Shared) = s2
  have I2 : Inv X pins σ H1 s2 := by
    rw [← hs2]
    exact I1.kept (t' := s1.toks) fun b o e => Heap.get?_push_of_some _ e
  have z2 : s2.heap.objs.size = it + 1 := by rw [← hs2, ← hit]; exact Heap.size_push _ _
  have itI : s2.heap.IsListIter it a 0 := by rw [← hs2, ← hit]; exact ⟨_, Heap.get?_push_size _ rfl, rfl, rfl⟩
  have liI : s2.heap.IsList a its.toArray := by rw [← hs2]; exact hl.isList.push _
  have nI : H1 it = none := I1.hok.fresh (Nat.le_of_eq hit)
  have fI : FpOk X pins H1 it := I1.fpOk (Nat.le_of_eq hit) nI
  refine ⟨it, _, _, _, _, _, rfl, Goes.list (I.ok.hd hc) it a (Nat.ne_of_lt hlt) its.toArray, ⟨itI, liI⟩, fun D C s3 hB hD0 => ?_⟩
  obtain ⟨⟨h3, tk3, e3⟩, old, nD, nC, hDC, hnm⟩ := hB
  have lD : it + 1 ≤ D := by rw [← z2]; exact nD
  have lC : it + 1 ≤ C := by rw [← z2]; exact nC
  have D0 : H1 D = none := I2.hok.fresh nD
  have C0 : H1 C = none := I2.hok.fresh nC
  have fC : FpOk X pins H1 C := I2.fpOk nC C0
  have neC : C ≠ it := Ne.symm (Nat.ne_of_lt lC)
  have neD : D ≠ it := Ne.symm (Nat.ne_of_lt lD)
  have aC : a ≠ C := Nat.ne_of_lt (Nat.lt_of_lt_of_le (Nat.lt_succ_of_lt hlt) lC)
  have aD : a ≠ D := Nat.ne_of_lt (Nat.lt_of_lt_of_le (Nat.lt_succ_of_lt hlt) lD)
  have loD : (D == sysModules) = false := beq_eq_false_iff_ne.mpr (Ne.symm (Nat.ne_of_lt (Nat.lt_of_lt_of_le I2.big nD)))
  have I3 : Inv X pins σ (upd H1 D (.dT [])) s3 := by
    rw [e3] at hD0 ⊢
    refine I2.laid (t' := tk3) (fun b o e => by have := old b o e; rw [e3] at this; exact this) nD ⟨Nat.zero_le _, loD, [], .nil, _, #[], 0, hD0, ⟨rfl, rfl, rfl⟩, rfl, rfl, List.nodup_nil⟩
  have kx : (compEnvC scope [] C X.env).kindOf x = some .local := lookup_relabel_local hx
  have notTop : ((compEnvC scope [] C X.env).scope.kind == .class || ((compEnvC scope [] C X.env).scope.kind == .module && (compEnvC scope [] C X.env).locals != (compEnvC scope [] C X.env).globals)) = false := by
    show (scope.kind == .class || (scope.kind == .module && _)) = false
    rw [hkind]
    rfl
  -- a record that is not ours has changed
  have turn_ : ∀ {G : HO} {z : Shared} {h' : Heap} {t' : Nat} {b : Addr}, FpOk X pins H1 b → b ≠ D → Inv X pins σ (upd H1 D G) z → (∀ p o, p ≠ b → z.heap.get? p = some o → h'.get? p = some o) → Inv X pins σ (upd H1 D G) { z with heap := h', toks := t' } := by
    intro G z h' t' b f nb J k
    obtain ⟨f0, f1, f2, f3, f4, f5⟩ := f
    exact J.turned k (by rw [upd_ne nb]; exact f0) f1 f3 f4 f5
  have hlen : its.length = cs.length := ri.length.symm.trans (Paired.length ht)
  refine ⟨fun i z => (∃ m, z.heap.Ns C m) ∧ Inv X pins σ (upd H1 D (.dT (tKeys (dd (cs.take i))))) z, ⟨⟨_, hnm⟩, ?_⟩, ?_, ?_, ?_⟩
  · exact I3
  · rintro i z h' tk ⟨⟨m, hm⟩, J⟩ k _
    have k' : ∀ p o, p ≠ it → z.heap.get? p = some o → h'.get? p = some o := fun p o hp e => k p o (by simpa using hp) e
    exact ⟨⟨m, hm.at' fun o e => k' _ o neC e⟩, turn_ fI neD.symm J k'⟩
  · rintro i v z hin hv st ⟨⟨m, hm⟩, J⟩
    have hv' : its[i]? = some v := by simpa using hv
    have hil : i < its.length := by simpa using hin
    obtain ⟨y, hy⟩ : ∃ y, xs[i]? = some y := ⟨_, List.getElem?_eq_getElem (by rw [ri.length]; exact hil)⟩
    obtain ⟨c, hcs, b, ey, hb⟩ := paired_get ht hy
    obtain ⟨u, hu1, hu2⟩ := Vals.get ri hy
    rw [hv'] at hu1
    cases hu1
    subst ey
    obtain rfl : v = Value.ref b := hu2
    refine wpAny_assign_Name (wpAny_storeName_local kx hm (fun h5 n5 s5 => ?_) notTop)
    have J5 := turn_ (t' := z.toks + 1) fC (Ne.symm hDC) J fun p o hp e => (s5.2 p hp).trans e
    have st5 : h5.IsListIter it a (i + 1) ∧ h5.IsList a its.toArray := ⟨st.1.at fun o e => (s5.2 _ (Ne.symm neC)).trans e, st.2.at fun o e => (s5.2 _ aC).trans e⟩
    refine wpAny_tests_nil ?_
    rw [if_pos rfl, eval_Name _ _ _ hdb]
    refine wpAny_bind (wpAny_standAt (wpAny_loadName_local hkind kx n5 (v := .ref b) (if_pos rfl) ?_))
    refine Constant_bool ?_
    have hbD : (upd H1 D (.dT (tKeys (dd (cs.take i))))) b = some (.tup (c.map V.int)) := by
      rw [upd_ne (ne_of_none hb D0)]
      exact hb
    have hsz : (dd (cs.take i)).length < sizeLine := by
      have h1 := dd_len (cs.take i)
      have h2 : (cs.take i).length ≤ cs.length := by rw [List.length_take]; omega
      omega
    refine dict_put (Nat.lt_of_le_of_lt (Nat.le_add_right _ 64) hu) J5 upd_same hsz hbD fun z6 J6 sb => ⟨⟨⟨_, n5.at' fun o e => (sb.2 _ (Ne.symm hDC)).trans e⟩, ?_⟩, st5.1.at fun o e => (sb.2 _ neD.symm).trans e, st5.2.at fun o e => (sb.2 _ aD).trans e⟩
    rw [upd_upd] at J6
    rw [List.take_add_one, hcs, Option.toList_some, dd_snoc]
    exact J6
  · rintro z ⟨⟨m, hm⟩, J⟩
    have en : its.toArray.size = cs.length := by rw [List.size_toArray]; exact hlen
    rw [en, List.take_length] at J
    refine ⟨m, hm, fun h' sb => ⟨.ref D, _, turn_ fC (Ne.symm hDC) J fun p o hp e => (sb.2 p hp).trans e, rfl, q D D0⟩⟩
end
end Kt
/-! ## KtBase -/
namespace Kt
open PySem L2 PyProof.Rows
/-! the text by places -/
def top (i : Nat) : Stmt := PySem.Challenge.pw_kepttogether_k49_whole_told_sets.main.body.getD i (.Pass ⟨0, 0, 0, 0⟩)
/-- a def of the text, where it stands -/
structure Df (K : PySem.W.Frag) (mg : Str → Option Value) (x : Str) (i : Nat) (ps : List Str) where
  f : Addr
  fd : FuncData
  fn : Fun K x x (top i) f fd
  g : mg x = some (.ref f)
  b : Binds K fd ps []
/-- what the top has left -/
structure Txt (w : World) (K : PySem.W.Frag) (mg : Str → Option Value) where
  isInt : Df K mg "is_integer" 6 ["value"]
  isPart : Df K mg "is_part" 7 ["value"]
  elems : Df K mg "elements_of" 8 ["tree"]
  cont : Df K mg "content" 9 ["tree"]
  isTree : Df K mg "is_tree_for" 10 ["value", "size"]
  chkTree : Df K mg "check_tree" 11 ["tree"]
  isChosen : Df K mg "is_chosen" 12 ["value", "size"]
  chkChosen : Df K mg "check_chosen" 13 ["tree", "chosen"]
  neigh : Df K mg "neighbouring" 14 ["parts", "chosen"]
  isFit : Df K mg "is_fitting" 15 ["tree", "chosen"]
  fits : Df K mg "fits" 16 ["tree", "chosen"]
  toldBy : Df K mg "told_by" 17 ["tree"]
  toldOf : Df K mg "told_of" 18 ["tree"]
  toldSets : Df K mg "told_sets" 19 ["tree"]
  stream : Df K mg "_law_stream" 21 ["_law_script"]
  next : Df K mg "_law_next" 22 ["_law_stream_here", "_law_many"]
  shuffled : Df K mg "_law_shuffled" 23 ["_law_stream_here", "_law_items"]
  chunks : Df K mg "_law_chunks" 24 ["_law_stream_here", "_law_items", "_law_many"]
  grown : Df K mg "_law_grown" 25 ["_law_stream_here", "_law_items"]
  tree : Df K mg "_law_tree" 26 ["_law_stream_here", "_law_size"]
  orders : Df K mg "_law_orders" 27 ["_law_items"]
  joined : Df K mg "_law_joined" 28 ["_law_children"]
  rows : Df K mg "_law_rows" 29 ["_law_tree_here"]
  together : Df K mg "_law_is_together" 30 ["_law_chosen", "_law_row"]
  lcont : Df K mg "_law_content" 31 ["_law_tree_here"]
  ltold : Df K mg "_law_told" 32 ["_law_tree_here"]
  law : Df K mg "law" 33 ["_law_script"]
  nIsi : mg "isinstance" = none
  nInt : mg "int" = none
  nBool : mg "bool" = none
  nTuple : mg "tuple" = none
  nStr : mg "str" = none
  nList : mg "list" = none
  nLen : mg "len" = none
  nAll : mg "all" = none
  nSorted : mg "sorted" = none
  nRange : mg "range" = none
  nAbs : mg "abs" = none
  t8 : Tok
  most : mg "MOST_ELEMENTS" = some (.int 8 t8)
  ld : Addr
  les : Array DictEntry
  ln : Nat
  gLeast : mg "LEAST_CHILDREN" = some (.ref ld)
  least : KDict K w ld les ln
  ta : Tok
  tt : Tok
  lAny : PySem.W.nsIn K ld "any" = some (some (.int 2 ta))
  lTurn : PySem.W.nsIn K ld "turn" = some (some (.int 3 tt))
/-! heaps -/
theorem same_new {H : Hp} {p : Addr} (h : H p = none) (o : HO) : Same H (upd H p o) := fun b u q => by rw [upd_ne (ne_of_none q h)]; exact q
theorem same_put {H H' : Hp} {p : Addr} (s : Same H H') (h : H p = none) (o : HO) : Same H (upd H' p o) := fun b u q => by rw [upd_ne (ne_of_none q h)]; exact s b u q
theorem sqT_keep {K : PySem.W.Frag} {H H' : Hp} {a : Addr} {xs : List V} (s : Same H H') (h : SqT K H a xs) : SqT K H' a xs := by
  rcases h with (h | ⟨o, h⟩) | h
  · exact .inl (.inl (s _ _ h))
  · exact .inl (.inr ⟨o, s _ _ h⟩)
  · exact .inr h
theorem sqT_put {K : PySem.W.Frag} {H : Hp} {a o : Addr} {xs ys : List V} {u : HO} (h : SqT K H a xs) (ho : H o = some (.lst ys)) : SqT K (upd H o u) a xs := by
  rcases h with (h | ⟨z, h⟩) | h
  · exact .inl (.inl (by rw [upd_ne (ne_of h ho (fun q => nomatch q))]; exact h))
  · exact .inl (.inr ⟨z, by rw [upd_ne (ne_of h ho (fun q => nomatch q))]; exact h⟩)
  · exact .inr h
/-- a slice of a tuple: some tuple of these items -/
def rSlB (K : PySem.W.Frag) : V → Option Int → Option Int → Hp → VK → Prop := fun x lo hi H Q => ∃ a xs, x = .ref a ∧ SqT K H a xs ∧ ∀ d H', Same H H' → SqT K H' d (cutV xs lo hi) → Q (.ref d) H'
theorem sl_tupB {X : Cx} : SlR X (rSlB X.K) := by
  intro pins s σ H x v vl vu lo hi sl Q I rx hs pl pu h
  obtain ⟨a, xs, rfl, hx, q⟩ := h
  refine sl_tupA pins s σ H _ v vl vu lo hi sl Q I rx hs pl pu ⟨a, xs, rfl, hx, fun hw => q a H (Same.refl H) ?_, fun _ p np => q p _ (same_new np _) (SqT.of upd_same)⟩
  have e : cutV xs lo hi = xs := by
    unfold cutV
    rw [hw.1, hw.2]
    exact List.take_length
  rw [e]
  exact hx
/-! trees in the heap -/
def word (b : Bool) : Str := bif b then "turn" else "any"
mutual
def TrAt (H : Hp) : Tr → V → Prop
  | .leaf i, v => v = .int i
  | .node b cs, v => ∃ a c vs, v = .ref a ∧ H a = some (.tup [.str (word b), .ref c]) ∧ H c = some (.tup vs) ∧ TrsAt H cs vs
def TrsAt (H : Hp) : List Tr → List V → Prop
  | [], vs => vs = []
  | t :: ts, vs => ∃ v r, vs = v :: r ∧ TrAt H t v ∧ TrsAt H ts r
end
mutual
theorem TrAt.keep {H H' : Hp} (s : Tups H H') : ∀ {t : Tr} {v : V}, TrAt H t v → TrAt H' t v
  | .leaf i, v, h => by rw [TrAt] at h ⊢; exact h
  | .node b cs, v, h => by
    rw [TrAt] at h ⊢
    obtain ⟨a, c, vs, e, ha, hc, ht⟩ := h
    exact ⟨a, c, vs, e, s _ _ ha, s _ _ hc, TrsAt.keep s ht⟩
theorem TrsAt.keep {H H' : Hp} (s : Tups H H') : ∀ {ts : List Tr} {vs : List V}, TrsAt H ts vs → TrsAt H' ts vs
  | [], vs, h => by rw [TrsAt] at h ⊢; exact h
  | t :: ts, vs, h => by
    rw [TrsAt] at h ⊢
    obtain ⟨v, r, e, ht, hr⟩ := h
    exact ⟨v, r, e, TrAt.keep s ht, TrsAt.keep s hr⟩
end
theorem TrsAt.len {H : Hp} : ∀ {ts : List Tr} {vs : List V}, TrsAt H ts vs → vs.length = ts.length
  | [], vs, h => by rw [TrsAt] at h; rw [h]; rfl
  | t :: ts, vs, h => by
    rw [TrsAt] at h
    obtain ⟨v, r, rfl, _, hr⟩ := h
    rw [List.length_cons, List.length_cons, hr.len]
theorem TrsAt.get {H : Hp} : ∀ {ts : List Tr} {vs : List V} {i : Nat} {v : V}, TrsAt H ts vs → vs[i]? = some v → ∃ t, ts[i]? = some t ∧ TrAt H t v
  | [], vs, i, v, h, e => by rw [TrsAt] at h; subst h; simp at e
  | t :: ts, vs, 0, v, h, e => by
    rw [TrsAt] at h
    obtain ⟨v', r, rfl, ht, hr⟩ := h
    simp at e
    subst e
    exact ⟨t, by simp, ht⟩
  | t :: ts, vs, i + 1, v, h, e => by
    rw [TrsAt] at h
    obtain ⟨v', r, rfl, ht, hr⟩ := h
    obtain ⟨u, h1, h2⟩ := hr.get (i := i) (by simpa using e)
    exact ⟨u, by simpa using h1, h2⟩
theorem TrsAt.snoc {H : Hp} {t : Tr} {v : V} : ∀ {ts : List Tr} {vs : List V}, TrsAt H ts vs → TrAt H t v → TrsAt H (ts ++ [t]) (vs ++ [v])
  | [], vs, h, ht => by
    rw [TrsAt] at h
    subst h
    show TrsAt H [t] [v]
    rw [TrsAt]
    exact ⟨v, [], rfl, ht, by rw [TrsAt]⟩
  | u :: ts, vs, h, ht => by
    rw [TrsAt] at h
    obtain ⟨v', r, rfl, h1, hr⟩ := h
    show TrsAt H (u :: (ts ++ [t])) (v' :: (r ++ [v]))
    rw [TrsAt]
    exact ⟨v', _, rfl, h1, hr.snoc ht⟩
/-- a tree's kind: an int, or a tuple -/
theorem TrAt.kind {H : Hp} {t : Tr} {v : V} (h : TrAt H t v) : (t.isLeaf = true ∧ ∃ i, t = .leaf i ∧ v = .int i) ∨ (t.isLeaf = false ∧ ∃ a xs, v = .ref a ∧ H a = some (.tup xs)) := by
  cases t with
  | leaf i => rw [TrAt] at h; exact .inl ⟨rfl, i, rfl, h⟩
  | node b cs =>
    rw [TrAt] at h
    obtain ⟨a, c, vs, e, ha, _⟩ := h
    exact .inr ⟨rfl, a, _, e, ha⟩
mutual
theorem parts_pos : ∀ t : Tr, 1 ≤ parts t
  | .leaf _ => by simp [parts]
  | .node _ cs => by rw [parts]; omega
theorem len_parts : ∀ cs : List Tr, cs.length ≤ partsL cs
  | [] => by simp [partsL]
  | t :: ts => by
    have h1 := parts_pos t
    have h2 := len_parts ts
    rw [partsL, List.length_cons]
    omega
end
theorem mem_parts : ∀ {cs : List Tr} {t : Tr}, t ∈ cs → parts t ≤ partsL cs
  | c :: cs, t, h => by
    rw [partsL]
    rcases List.mem_cons.mp h with e | h
    · rw [e]; omega
    · have := mem_parts h
      omega
theorem leaves_parts : ∀ t : Tr, (leaves t).length ≤ parts t := by
  intro t
  have all : (∀ t : Tr, (leaves t).length ≤ parts t) ∧ ∀ ts : List Tr, (leavesL ts).length ≤ partsL ts := by
    constructor
    · exact go
    · exact goL
  exact all.1 t
where
  go : ∀ t : Tr, (leaves t).length ≤ parts t
    | .leaf _ => by simp [leaves, parts]
    | .node _ cs => by
      have := goL cs
      rw [leaves, parts]
      omega
  goL : ∀ ts : List Tr, (leavesL ts).length ≤ partsL ts
    | [] => by simp [leavesL, partsL]
    | t :: ts => by
      have h1 := go t
      have h2 := goL ts
      rw [leavesL, partsL, List.length_append]
      omega
theorem take_snoc {α : Type} {l : List α} {i : Nat} {x : α} (h : l[i]? = some x) : l.take (i + 1) = l.take i ++ [x] := by
  rw [List.take_add_one, h, Option.toList_some]
theorem tups_put {H H' : Hp} {D : Addr} {xs : List V} {o : HO} (s : Tups H H') (h : H D = some (.lst xs)) : Tups H (upd H' D o) := fun b ys e => by
  rw [upd_ne (ne_of e h (fun q => nomatch q))]
  exact s b ys e
/-- an if without an else, joined behind -/
theorem ite_key {b : Bool} {A : Prop} {U : L2.St → Hp → Prop} {σ : L2.St} {H : Hp} (R : L2.St → Hp → Prop) (key : ∀ σ H, R σ H → U σ H) (h1 : b = true → (∀ σ H, R σ H → U σ H) → A) (h2 : b = false → R σ H) : if b = true then A else U σ H := by
  cases b with
  | true => rw [if_pos rfl]; exact h1 rfl key
  | false => rw [if_neg Bool.false_ne_true]; exact key σ H (h2 rfl)
/-- no test: the item is taken -/
theorem yes {σ : L2.St} {H : Hp} {A B : Hp → Prop} (h : A H) : tYes σ H (fun b H3 => if b = true then A H3 else B H3) := (if_pos rfl : (if true = true then A H else B H) = A H).mpr h
theorem rgV_eq (n : Nat) : rgV 0 (n : Int) = (rng n).map V.int := by
  have e : ((n : Int) - 0).toNat = n := by omega
  unfold rgV rng
  rw [e, List.map_map]
  refine List.map_congr_left fun i _ => ?_
  show V.int (0 + (i : Int)) = V.int (i : Int)
  rw [Int.zero_add]
theorem leavesL_take {cs : List Tr} (k : Nat) : (leavesL (cs.take k)).length ≤ (leavesL cs).length := by
  have := leavesL_append (cs.take k) (cs.drop k)
  rw [List.take_append_drop] at this
  rw [this, List.length_append]
  omega
theorem leavesL_snoc (ts : List Tr) (t : Tr) : leavesL (ts ++ [t]) = leavesL ts ++ leaves t := by
  rw [leavesL_append, leavesL, leavesL, List.append_nil]
theorem leavesL_parts (ts : List Tr) : (leavesL ts).length ≤ partsL ts := leaves_parts.goL ts
/-- no call is left -/
theorem none_left {P : Program} {w : World} {K : PySem.W.Frag} {mg : Str → Option Value} {base : Heap} {k : Nat} {f : Addr} {fd : FuncData} {ps : List Str} {sp : Sp} (no : ∀ vs H Q E, ¬ sp vs H Q E) : FnOk P w K mg base CX0 k f fd ps sp :=
  ⟨fun vs H Q E h => absurd h (no vs H Q E), fun A outer s H args us vs Q E _ _ _ _ h => absurd h (no vs H Q E)⟩
theorem small {n : Nat} (h : n ≤ 1000000) : n < sizeLine := Nat.lt_of_le_of_lt h (by decide)
theorem small' {n : Nat} (h : n ≤ 1000000) : n ≤ sizeLine := Nat.le_of_lt (small h)
end Kt
/-! ## KtP1 -/
namespace Kt
open PySem L2 PyProof.Rows
section
variable {P : Program} {w : World} {K : PySem.W.Frag} {mg : Str → Option Value} {base : Heap}
/-! is_integer -/
def IntV (H : Hp) (v : V) (b : Bool) : Prop := (∃ i, v = .int i ∧ b = true) ∨ (∃ a xs, v = .ref a ∧ H a = some (.tup xs) ∧ b = false)
def spIsInt : Sp := fun vs H Q _ => ∃ v b, vs = [v] ∧ IntV H v b ∧ Q (.bl b) H
theorem tr_int {H : Hp} {t : Tr} {v : V} (h : TrAt H t v) : IntV H v t.isLeaf := by
  rcases h.kind with ⟨e, i, _, q⟩ | ⟨e, a, xs, q, r⟩
  · rw [e]; exact .inl ⟨i, q, rfl⟩
  · rw [e]; exact .inr ⟨a, xs, q, r, rfl⟩
theorem sc_isInt : FnScope ["value"] ["value"] (defScope (top 6)) := ⟨rfl, rfl, rfl, by decide +kernel, rfl, by decide +kernel, by decide +kernel⟩
theorem ok_isInt (T : Txt w K mg) : FnOk P w K mg base CX0 1 T.isInt.f T.isInt.fd ["value"] spIsInt := by
  refine T.isInt.fn.ok sc_isInt (fun vs H Q E h => ?_) (fun cdv A outer s H vs Q E hr h => ?_)
  · obtain ⟨v, b, rfl, _⟩ := h
    rfl
  · obtain ⟨v, b, rfl, hv, q⟩ := h
    refine ⟨_, (pss_one (ps_ret (pe_and (pe_callB call_isi (by rfl) T.nIsi (by decide +kernel) (pa_cons (pv 0) (pa_cons (pe_bltn (v := .ty "int") (by rfl) T.nInt (by decide +kernel) rfl) pa_nil))) (pe_one (pe_not (pe_callB call_isi (by rfl) T.nIsi (by decide +kernel) (pa_cons (pv 0) (pa_cons (pe_bltn (v := .ty "bool") (by rfl) T.nBool (by decide +kernel) rfl) pa_nil)))))))), ?_⟩
    rcases hv with ⟨i, rfl, rfl⟩ | ⟨a, xs, rfl, ha, rfl⟩
    · refine ⟨_, rfl, _, _, _, _, true, rfl, .ty _, .base (.int i), kit_ty (by decide +kernel), true, rfl, iteT ?_⟩
      exact ⟨_, rfl, _, _, _, _, false, rfl, .ty _, .base (.int i), kit_ty (by decide +kernel), false, rfl, q⟩
    · exact ⟨_, rfl, _, _, _, _, false, rfl, .ty _, .base (.tup ha), kit_ty (by decide +kernel), false, rfl, iteF q⟩
/-! is_part -/
def spPart (n : Nat) : Sp := fun vs H Q _ => ∃ v t, vs = [v] ∧ TrAt H t v ∧ Ok t ∧ deep t < n ∧ parts t ≤ 100 ∧ ∀ H', Same H H' → Q (.bl true) H'
theorem sc_isPart : FnScope ["value", "child"] ["value"] (defScope (top 7)) := ⟨rfl, rfl, rfl, by decide +kernel, rfl, by decide +kernel, by decide +kernel⟩
theorem rep_map (n : Nat) : (List.replicate n true).map V.bl = List.replicate n (V.bl true) := List.map_replicate
theorem rep_all (n : Nat) : (List.replicate n true).all id = true := by
  rw [List.all_eq_true]
  intro x hx
  exact (List.eq_of_mem_replicate hx).symm ▸ rfl
theorem rep_snoc {α : Type} (n : Nat) (x : α) : List.replicate n x ++ [x] = List.replicate (n + 1) x := by
  rw [List.replicate_succ']
theorem ok_part (T : Txt w K mg) : ∀ n, FnOk P w K mg base CX0 (n + 1) T.isPart.f T.isPart.fd ["value"] (spPart n)
  | 0 => by
    have no : ∀ vs H Q E, ¬ spPart 0 vs H Q E := fun vs H Q E h => by
      obtain ⟨v, t, _, _, _, h1, _⟩ := h
      exact absurd h1 (Nat.not_lt_zero _)
    exact ⟨fun vs H Q E h => absurd h (no vs H Q E), fun A outer s H args us vs Q E _ _ _ _ h => absurd h (no vs H Q E)⟩
  | n + 1 => by
    have GisPart := ok_part T n
    have GisInt := ok_isInt (P := P) (base := base) T
    refine T.isPart.fn.ok sc_isPart (fun vs H Q E h => ?_) (fun cdv A outer s H vs Q E hr h => ?_)
    · obtain ⟨v, t, rfl, _⟩ := h
      rfl
    · obtain ⟨v, t, rfl, ht, ok, hd, hp, q⟩ := h
      refine ⟨_, (pss_cons (ps_if (pt_val (pe_call GisInt (hr.mono (by omega)) (by rfl) T.isInt.g T.isInt.fn.kp T.isInt.b .nil pass0 (pa_cons (pv 0) pa_nil)))
        (pss_one (ps_ret pe_bl))
        pss_nil)
        (pss_cons (ps_if (PW.pt (pw_or (pt_not (pt_val (pe_callB call_isi (by rfl) T.nIsi (by decide +kernel) (pa_cons (pv 0) (pa_cons (pe_bltn (v := .ty "tuple") (by rfl) T.nTuple (by decide +kernel) rfl) pa_nil))))) (pw_or (pt_cmpR op_ne (pe_callB call_len_seq (by rfl) T.nLen (by decide +kernel) (pa_cons (pv 0) pa_nil)) pe_int (nomark _)) (pw_or1 (pt_not (pt_val (pe_callB call_isi (by rfl) T.nIsi (by decide +kernel) (pa_cons (pe_ix (r := rIxT K) ix_tup (pv 0) pe_int (fun _ _ => rfl)) (pa_cons (pe_bltn (v := .ty "str") (by rfl) T.nStr (by decide +kernel) rfl) pa_nil)))))))))
        (pss_one (ps_ret pe_bl))
        pss_nil)
        (pss_cons (ps_if (PW.pt (pw_or (pt_cmpR (op_notIn_kd T.least) (pe_ix (r := rIxT K) ix_tup (pv 0) pe_int (fun _ _ => rfl)) (pe_glob (v := .ref T.ld) (by rfl) T.gLeast rfl) rfl) (pw_or1 (pt_not (pt_val (pe_callB call_isi (by rfl) T.nIsi (by decide +kernel) (pa_cons (pe_ix (r := rIxT K) ix_tup (pv 0) pe_int (fun _ _ => rfl)) (pa_cons (pe_bltn (v := .ty "tuple") (by rfl) T.nTuple (by decide +kernel) rfl) pa_nil))))))))
        (pss_one (ps_ret pe_bl))
        pss_nil)
        (pss_one (ps_ret (pe_and (pe_cmpR op_ge (pe_callB call_len_seq (by rfl) T.nLen (by decide +kernel) (pa_cons (pe_ix (r := rIxT K) ix_tup (pv 0) pe_int (fun _ _ => rfl)) pa_nil)) (pe_ix (r := rIxD K w) ix_kdict (pe_glob (v := .ref T.ld) (by rfl) T.gLeast rfl) (pe_ix (r := rIxT K) ix_tup (pv 0) pe_int (fun _ _ => rfl)) (fun _ _ => rfl)) (nomark _)) (pe_one (pe_callB (cr_all rfl) (by rfl) T.nAll (by decide +kernel) (pa_cons (pe_lc (own := [("child", 1)]) (g := gName 1) (tt := tYes) rfl sc_isPart.nd (pi_tup (pe_ix (r := rIxT K) ix_tup (pv 0) pe_int (fun _ _ => rfl))) (blkOk_by (own := [("child", 1)]) (N := ["value", "child"]) (sc := defScope (top 7)) (by decide +kernel)) (fun _ _ _ _ _ => pg_name (i := 1) sc_isPart.nd rfl (Or.inl rfl)) (fun _ _ _ _ _ => pts_nil) (fun _ _ _ _ _ => (pe_call GisPart (hr.mono (by omega)) (by rfl) T.isPart.g T.isPart.fn.kp T.isPart.b .nil pass0 (pa_cons (pv 1) pa_nil)))) pa_nil))))))))), ?_⟩
      cases t with
      | leaf i =>
        rw [TrAt] at ht
        subst ht
        exact ⟨_, rfl, _, true, rfl, .inl ⟨i, rfl, rfl⟩, true, rfl, iteT (q H (Same.refl H))⟩
      | node b cs =>
        rw [TrAt] at ht
        obtain ⟨a, c, us, rfl, ha, hc, hts⟩ := ht
        rw [Ok] at ok
        rw [deep] at hd
        rw [parts] at hp
        have okc := (OkL_iff cs).mp ok.2
        have hl := hts.len
        refine ⟨_, rfl, _, false, rfl, .inr ⟨a, _, rfl, ha, rfl⟩, false, rfl, iteF ?_⟩
        refine ⟨_, rfl, _, _, _, _, true, rfl, .ty _, .base (.tup ha), kit_ty (by decide +kernel), true, rfl, iteF ?_⟩
        refine ⟨_, rfl, a, _, rfl, .inr (SqT.of ha), rfl, _, rfl, iteNS rfl ?_⟩
        refine ⟨_, rfl, a, _, 0, _, rfl, rfl, SqT.of ha, atI_nat (j := 0) rfl, _, _, _, _, true, rfl, .ty _, .base (.str _), kit_ty (by decide +kernel), true, rfl, iteF ?_⟩
        have hw : ∃ u k, PySem.W.nsIn K T.ld (word b) = some (some u) ∧ RelV (.int (k : Nat)) u ∧ k ≤ us.length := by
          cases b with
          | false => exact ⟨_, 2, T.lAny, ⟨T.ta, rfl⟩, by rw [hl]; exact ok.1⟩
          | true => exact ⟨_, 3, T.lTurn, ⟨T.tt, rfl⟩, by rw [hl]; exact ok.1⟩
        obtain ⟨u, k, hu, hk, hle⟩ := hw
        refine ⟨_, rfl, a, _, 0, _, rfl, rfl, SqT.of ha, atI_nat (j := 0) rfl, _, _, rfl, rfl, hu, false, rfl, iteF ?_⟩
        refine ⟨_, rfl, a, _, 1, _, rfl, rfl, SqT.of ha, atI_nat (j := 1) rfl, _, _, _, _, true, rfl, .ty _, .base (.tup hc), kit_ty (by decide +kernel), true, rfl, iteF ?_⟩
        refine ⟨_, rfl, a, _, 1, _, rfl, rfl, SqT.of ha, atI_nat (j := 1) rfl, c, _, rfl, .inr (SqT.of hc), _, rfl, a, _, 0, _, rfl, rfl, SqT.of ha, atI_nat (j := 0) rfl, T.ld, _, _, rfl, rfl, ⟨_, _, u, T.least.at_, T.least.lit, hu, hk⟩, _, _, rfl, rfl, true, ?_, iteT ?_⟩
        · exact congrArg V.bl (decide_eq_true (by omega))
        refine ⟨_, rfl, a, _, 1, _, rfl, rfl, SqT.of ha, atI_nat (j := 1) rfl, c, rfl, ⟨_, SqT.of hc⟩, fun D hD => ?_⟩
        refine lc_tup (K := K) (xs := us) (fun i H' => Same H H' ∧ H' D = some (.lst (List.replicate i (V.bl true)))) ⟨same_new hD _, upd_same⟩ (fun i H' _ p => SqT.of (p.1 _ _ hc)) (fun i x H' hx p => ?_) (fun H' p => ?_)
        · obtain ⟨s1, e1⟩ := p
          obtain ⟨t, ht, hv⟩ := hts.get hx
          have htm : t ∈ cs := List.mem_of_getElem? ht
          have hi : i < us.length := (List.getElem?_eq_some_iff.mp hx).1
          refine ⟨rfl, yes ?_⟩
          refine ⟨_, rfl, x, t, rfl, hv.keep (tups_same s1), okc t htm, Nat.lt_of_le_of_lt (deepL_le htm) (by omega), Nat.le_trans (mem_parts htm) (by omega), fun H4 s4 => ⟨_, s4 _ _ e1, ?_, same_put (s1.trans s4) hD _, ?_⟩⟩
          · rw [List.length_replicate]
            have := len_parts cs
            exact small (by omega)
          · rw [upd_same, rep_snoc]
        · obtain ⟨s1, e1⟩ := p
          exact ⟨D, List.replicate us.length true, rfl, SqL.of (by rw [rep_map]; exact e1), by rw [rep_all]; exact q H' s1⟩
end
end Kt
/-! ## KtP2 -/
namespace Kt
open PySem L2 PyProof.Rows
section
variable {P : Program} {w : World} {K : PySem.W.Frag} {mg : Str → Option Value} {base : Heap}
/-! elements_of -/
def spElems (n : Nat) : Sp := fun vs H Q _ => ∃ v t, vs = [v] ∧ TrAt H t v ∧ deep t < n ∧ parts t ≤ 100 ∧ ∀ H' p, Same H H' → H p = none → H' p = some (.lst ((leaves t).map V.int)) → Q (.ref p) H'
theorem sc_elems : FnScope ["tree", "found", "child"] ["tree"] (defScope (top 8)) := ⟨rfl, rfl, rfl, by decide +kernel, rfl, by decide +kernel, by decide +kernel⟩
theorem ok_elems (T : Txt w K mg) : ∀ n, FnOk P w K mg base CX0 (n + 1) T.elems.f T.elems.fd ["tree"] (spElems n)
  | 0 => none_left fun vs H Q E h => by
    obtain ⟨v, t, _, _, h1, _⟩ := h
    exact absurd h1 (Nat.not_lt_zero _)
  | n + 1 => by
    have Gelems := ok_elems T n
    have GisInt := ok_isInt (P := P) (base := base) T
    refine T.elems.fn.ok sc_elems (fun vs H Q E h => ?_) (fun cdv A outer s H vs Q E hr h => ?_)
    · obtain ⟨v, t, rfl, _⟩ := h
      rfl
    · obtain ⟨v, t, rfl, ht, hd, hp, q⟩ := h
      refine ⟨_, (pss_cons (ps_if (pt_val (pe_call GisInt (hr.mono (by omega)) (by rfl) T.isInt.g T.isInt.fn.kp T.isInt.b .nil pass0 (pa_cons (pv 0) pa_nil)))
        (pss_one (ps_ret (pe_lst (pa_cons (pv 0) pa_nil))))
        pss_nil)
        (pss_cons (ps_set (i := 1) sc_elems.nd rfl (Or.inl rfl) (pe_lst pa_nil))
        (pss_cons (ps_for PassesOwn.never rfl (pi_tup (pe_ix (r := rIxT K) ix_tup (pv 0) pe_int (fun _ _ => rfl))) (pg_name (i := 2) sc_elems.nd rfl (Or.inl rfl))
        (pss_one (ps_expr (pe_bm PySem.F.plainAttrs_list PySem.F.slot_list_extend PySem.F.type_list_extend mt_extend (pv 1) (pa_cons (pe_call Gelems (hr.mono (by omega)) (by rfl) T.elems.g T.elems.fn.kp T.elems.b .nil pass0 (pa_cons (pv 2) pa_nil)) pa_nil)))))
        (pss_one (ps_ret (pv 1)))))), ?_⟩
      cases t with
      | leaf i =>
        rw [TrAt] at ht
        subst ht
        refine ⟨_, rfl, _, true, rfl, .inl ⟨i, rfl, rfl⟩, true, rfl, iteT ?_⟩
        refine ⟨_, rfl, (by show 1 ≤ sizeLine; decide), fun p np => q _ p (same_new np _) np ?_⟩
        rw [leaves]
        exact upd_same
      | node b cs =>
        rw [TrAt] at ht
        obtain ⟨a, c, us, rfl, ha, hc, hts⟩ := ht
        rw [deep] at hd
        rw [parts] at hp
        refine ⟨_, rfl, _, false, rfl, .inr ⟨a, _, rfl, ha, rfl⟩, false, rfl, iteF ?_⟩
        refine ⟨Nat.zero_le _, fun o no => ?_⟩
        have s0 : Same H (upd H o (.lst [])) := same_new no _
        refine ⟨_, rfl, a, _, 1, _, rfl, rfl, SqT.of (s0 _ _ ha), atI_nat (j := 1) rfl, c, rfl, ⟨_, SqT.of (s0 _ _ hc)⟩, ?_⟩
        refine for_tup (K := K) (xs := us) (fun i σ H' => ∃ y, σ = [some (.ref a), some (.ref o), y] ∧ Same H H' ∧ H' o = some (.lst ((leavesL (cs.take i)).map V.int))) ⟨_, rfl, s0, by rw [upd_same]; simp [leavesL]⟩ (fun i σ H' _ p => ?_) (fun i x σ H' hx p => ?_) (fun σ H' p => ?_)
        · obtain ⟨y, _, s1, _⟩ := p
          exact SqT.of (s1 _ _ hc)
        · obtain ⟨y, rfl, s1, e1⟩ := p
          obtain ⟨t, ht, hv⟩ := hts.get hx
          have htm : t ∈ cs := List.mem_of_getElem? ht
          refine ⟨.ref o, rfl, .inl ⟨rfl, _, SqL.of e1⟩, _, rfl, x, t, rfl, hv.keep (tups_same s1), Nat.lt_of_le_of_lt (deepL_le htm) (by omega), Nat.le_trans (mem_parts htm) (by omega), fun H4 r s4 nr er => ?_⟩
          have e4 : H4 o = some (.lst ((leavesL (cs.take i)).map V.int)) := s4 _ _ e1
          have em : leavesL (cs.take (i + 1)) = leavesL (cs.take i) ++ leaves t := by rw [take_snoc ht, leavesL_snoc]
          refine ⟨o, r, _, _, rfl, rfl, e4, er, ?_, _, rfl, same_put (s1.trans s4) no _, ?_⟩
          · have h1 := leavesL_take (cs := cs) (i + 1)
            have h2 := leavesL_parts cs
            rw [em, List.length_append] at h1
            rw [List.length_map, List.length_map]
            exact small' (by omega)
          · rw [upd_same, em, List.map_append]
        · obtain ⟨y, rfl, s1, e1⟩ := p
          rw [hts.len, List.take_length] at e1
          exact ⟨.ref o, rfl, q H' o s1 no (by rw [leaves]; exact e1)⟩
/-! content -/
def spCont : Sp := fun vs H Q _ => ∃ v t, vs = [v] ∧ TrAt H t v ∧ deep t < 6 ∧ parts t ≤ 100 ∧ ∀ H' p, Same H H' → H' p = some (.tup ((srt (leaves t)).map V.int)) → Q (.ref p) H'
theorem sc_cont : FnScope ["tree"] ["tree"] (defScope (top 9)) := ⟨rfl, rfl, rfl, by decide +kernel, rfl, by decide +kernel, by decide +kernel⟩
theorem ok_cont (T : Txt w K mg) : FnOk P w K mg base CX0 8 T.cont.f T.cont.fd ["tree"] spCont := by
  have Gelems := ok_elems (P := P) (base := base) T 6
  refine T.cont.fn.ok sc_cont (fun vs H Q E h => ?_) (fun cdv A outer s H vs Q E hr h => ?_)
  · obtain ⟨v, t, rfl, _⟩ := h
    rfl
  · obtain ⟨v, t, rfl, ht, hd, hp, q⟩ := h
    refine ⟨_, (pss_one (ps_ret (pe_callTy call_tuple_of (by rfl) T.nTuple (by decide +kernel) (pa_cons (pe_callB cr_sortedI (by rfl) T.nSorted (by decide +kernel) (pa_cons (pe_call Gelems (hr.mono (by omega)) (by rfl) T.elems.g T.elems.fn.kp T.elems.b .nil pass0 (pa_cons (pv 0) pa_nil)) pa_nil)) pa_nil)))), ?_⟩
    refine ⟨_, rfl, v, t, rfl, ht, hd, hp, fun H1 p1 s1 n1 e1 => ?_⟩
    refine ⟨p1, _, rfl, SqL.of e1, fun ns p2 pm so n2 => ?_⟩
    rw [srt_uniq pm so]
    refine ⟨p2, _, rfl, .inl ⟨SqL.of upd_same, fun l nl => ?_⟩⟩
    exact q _ l (same_put (s1.trans (same_new n2 _)) (s1.free ((same_new n2 _).free nl)) _) upd_same
/-! is_tree_for -/
def spTree : Sp := fun vs H Q _ => ∃ v t n, vs = [v, .int (n : Nat)] ∧ TrAt H t v ∧ Ok t ∧ deep t < 6 ∧ parts t ≤ 100 ∧ (leaves t).Perm (rng n) ∧ ∀ H', Same H H' → Q (.bl true) H'
theorem sc_isTree : FnScope ["value", "size"] ["value", "size"] (defScope (top 10)) := ⟨rfl, rfl, rfl, by decide +kernel, rfl, by decide +kernel, by decide +kernel⟩
theorem ok_isTree (T : Txt w K mg) : FnOk P w K mg base CX0 8 T.isTree.f T.isTree.fd ["value", "size"] spTree := by
  have Gelems := ok_elems (P := P) (base := base) T 6
  have GisPart := ok_part (P := P) (base := base) T 6
  refine T.isTree.fn.ok sc_isTree (fun vs H Q E h => ?_) (fun cdv A outer s H vs Q E hr h => ?_)
  · obtain ⟨v, t, n, rfl, _⟩ := h
    rfl
  · obtain ⟨v, t, n, rfl, ht, ok, hd, hp, hl, q⟩ := h
    refine ⟨_, (pss_one (ps_ret (pe_and (pe_call GisPart (hr.mono (by omega)) (by rfl) T.isPart.g T.isPart.fn.kp T.isPart.b .nil pass0 (pa_cons (pv 0) pa_nil)) (pe_one (pe_cmpR (op_eqD hr.units) (pe_callB cr_sortedI (by rfl) T.nSorted (by decide +kernel) (pa_cons (pe_call Gelems (hr.mono (by omega)) (by rfl) T.elems.g T.elems.fn.kp T.elems.b .nil pass0 (pa_cons (pv 0) pa_nil)) pa_nil)) (pe_listRg rfl (by rfl) T.nList (prg_1 (by rfl) T.nRange (pv 1))) (nomark _)))))), ?_⟩
    have hn : n ≤ 100 := by
      have h1 := hl.length_eq
      have h2 := leaves_parts t
      rw [rng_len] at h1
      omega
    refine ⟨_, rfl, v, t, rfl, ht, ok, hd, hp, fun H1 s1 => ⟨true, rfl, iteT ?_⟩⟩
    refine ⟨_, rfl, v, t, rfl, ht.keep (tups_same s1), hd, hp, fun H2 p2 s2 n2 e2 => ?_⟩
    refine ⟨p2, _, rfl, SqL.of e2, fun ns p3 pm so n3 => ?_⟩
    have en : ns = rng n := List.Perm.eq_of_pairwise (le := (· ≤ ·)) (fun a b _ _ h1 h2 => Int.le_antisymm h1 h2) so ((rng_sorted n).imp Int.le_of_lt) (pm.trans hl)
    subst en
    refine ⟨_, rfl, n, rfl, RgOk.of_le (Int.le_refl 0) (by omega) (by decide) (by omega), fun p4 n4 => ?_⟩
    refine ⟨.list ((rng n).map PyData.int), .list ((rng n).map PyData.int), .lst (SqL.of (same_new n4 _ _ _ upd_same)) (dp_ints _ _ _), .lst (SqL.of (by rw [upd_same, rgV_eq])) (dp_ints _ _ _), ints_shaped _, ints_shaped _, ?_⟩
    rw [show PyData.eqv (.list ((rng n).map PyData.int)) (.list ((rng n).map PyData.int)) = true by simp only [PyData.eqv]; rw [eqv_ints]; exact decide_eq_true rfl]
    exact q _ (((s1.trans s2).trans (same_new n3 _)).trans (same_new n4 _))
/-! check_tree -/
def spChk : Sp := fun vs H Q _ => ∃ v t n, vs = [v] ∧ TrAt H t v ∧ Ok t ∧ deep t < 6 ∧ parts t ≤ 100 ∧ n ≤ 8 ∧ (leaves t).Perm (rng n) ∧ ∀ H', Same H H' → Q .non H'
theorem sc_chkTree : FnScope ["tree", "size"] ["tree"] (defScope (top 11)) := ⟨rfl, rfl, rfl, by decide +kernel, rfl, by decide +kernel, by decide +kernel⟩
theorem ok_chkTree (T : Txt w K mg) : FnOk P w K mg base CX0 9 T.chkTree.f T.chkTree.fd ["tree"] spChk := by
  have Gelems := ok_elems (P := P) (base := base) T 6
  have GisPart := ok_part (P := P) (base := base) T 6
  have GisTree := ok_isTree (P := P) (base := base) T
  refine T.chkTree.fn.ok sc_chkTree (fun vs H Q E h => ?_) (fun cdv A outer s H vs Q E hr h => ?_)
  · obtain ⟨v, t, n, rfl, _⟩ := h
    rfl
  · obtain ⟨v, t, n, rfl, ht, ok, hd, hp, h8, hl, q⟩ := h
    refine ⟨_, (pss_cons (ps_if (pt_not (pt_val (pe_call GisPart (hr.mono (by omega)) (by rfl) T.isPart.g T.isPart.fn.kp T.isPart.b .nil pass0 (pa_cons (pv 0) pa_nil))))
      (pss_one ps_never)
      pss_nil)
      (pss_cons (ps_set (i := 1) sc_chkTree.nd rfl (Or.inl rfl) (pe_callB call_len_seq (by rfl) T.nLen (by decide +kernel) (pa_cons (pe_call Gelems (hr.mono (by omega)) (by rfl) T.elems.g T.elems.fn.kp T.elems.b .nil pass0 (pa_cons (pv 0) pa_nil)) pa_nil)))
      (pss_one (ps_if (PW.pt (pw_or (pt_cmpR op_gt (pv 1) (pe_glob (v := .int 8) (by rfl) T.most ⟨T.t8, rfl⟩) (nomark _)) (pw_or1 (pt_not (pt_val (pe_call GisTree (hr.mono (by omega)) (by rfl) T.isTree.g T.isTree.fn.kp T.isTree.b .nil pass0 (pa_cons (pv 0) (pa_cons (pv 1) pa_nil))))))))
      (pss_one ps_never)
      pss_nil)))), ?_⟩
    have len : (leaves t).length = n := by rw [hl.length_eq, rng_len]
    refine ⟨_, rfl, v, t, rfl, ht, ok, hd, hp, fun H1 s1 => ⟨true, rfl, iteF ?_⟩⟩
    refine ⟨_, rfl, v, t, rfl, ht.keep (tups_same s1), hd, hp, fun H2 p2 s2 n2 e2 => ?_⟩
    refine ⟨p2, _, rfl, .inl (SqL.of e2), ?_⟩
    rw [List.length_map, len]
    refine ⟨_, rfl, _, _, rfl, rfl, false, ?_, iteF ?_⟩
    · exact congrArg V.bl (decide_eq_false (by omega))
    refine ⟨_, rfl, _, rfl, v, t, n, rfl, ht.keep (tups_same (s1.trans s2)), ok, hd, hp, hl, fun H3 s3 => ⟨true, rfl, iteF ?_⟩⟩
    exact q H3 ((s1.trans s2).trans s3)
end
end Kt
/-! ## KtP3 -/
namespace Kt
open PySem L2 PyProof.Rows
theorem in_ints (x : Int) : ∀ c : List Int, inV (.int x) (c.map V.int) = decide (x ∈ c)
  | [] => by simp [inV]
  | y :: c => by
    have ih := in_ints x c
    unfold inV at ih ⊢
    rw [List.map_cons, List.any_cons, ih]
    show (y == x || decide (x ∈ c)) = decide (x ∈ y :: c)
    by_cases h : y = x
    · subst h; simp
    · have h' : ¬ x = y := fun e => h e.symm
      simp [h, h']
theorem flat_ints : ∀ c : List Int, (c.map V.int).all flatV = true
  | [] => rfl
  | y :: c => by
    rw [List.map_cons, List.all_cons, flat_ints c]
    rfl
theorem cut_drop (xs : List V) (i : Nat) (h : i ≤ xs.length) : cutV xs (some (i : Int)) none = xs.drop i := by
  unfold cutV
  rw [HT.sIx_nat, HT.sIx_none, Nat.min_eq_left h]
  exact List.take_of_length_le (by rw [List.length_drop]; exact Nat.le_refl _)
theorem bools_all (c : List Int) (p : Int → Bool) : (c.map p).all id = c.all p := by
  rw [List.all_map]
  rfl
section
variable {P : Program} {w : World} {K : PySem.W.Frag} {mg : Str → Option Value} {base : Heap}
/-! is_chosen -/
def spChosen : Sp := fun vs H Q _ => ∃ (a : Addr) (c : List Int) (n : Nat), vs = [.ref a, .int (n : Nat)] ∧ H a = some (.tup (c.map V.int)) ∧ c.Pairwise (· < ·) ∧ (∀ x ∈ c, 0 ≤ x ∧ x < (n : Int)) ∧ c.length ≤ 100 ∧ ∀ H', Same H H' → Q (.bl true) H'
theorem sc_isChosen : FnScope ["value", "size", "at", "item"] ["value", "size"] (defScope (top 12)) := ⟨rfl, rfl, rfl, by decide +kernel, rfl, by decide +kernel, by decide +kernel⟩
theorem ok_isChosen (T : Txt w K mg) : FnOk P w K mg base CX0 2 T.isChosen.f T.isChosen.fd ["value", "size"] spChosen := by
  have GisInt := ok_isInt (P := P) (base := base) T
  refine T.isChosen.fn.ok sc_isChosen (fun vs H Q E h => ?_) (fun cdv A outer s H vs Q E hr h => ?_)
  · obtain ⟨a, c, n, rfl, _⟩ := h
    rfl
  · obtain ⟨a, c, n, rfl, ha, hs, hm, h100, q⟩ := h
    refine ⟨_, (pss_cons (ps_if (PW.pt (pw_or (pt_not (pt_val (pe_callB call_isi (by rfl) T.nIsi (by decide +kernel) (pa_cons (pv 0) (pa_cons (pe_bltn (v := .ty "tuple") (by rfl) T.nTuple (by decide +kernel) rfl) pa_nil))))) (pw_or1 (pt_not (pt_val (pe_callB (cr_all rfl) (by rfl) T.nAll (by decide +kernel) (pa_cons (pe_lc (own := [("item", 3)]) (g := gName 3) (tt := tYes) rfl sc_isChosen.nd (pi_tup (pv 0)) (blkOk_by (own := [("item", 3)]) (N := ["value", "size", "at", "item"]) (sc := defScope (top 12)) (by decide +kernel)) (fun _ _ _ _ _ => pg_name (i := 3) sc_isChosen.nd rfl (Or.inl rfl)) (fun _ _ _ _ _ => pts_nil) (fun _ _ _ _ _ => (pe_and (pe_call GisInt (hr.mono (by omega)) (by rfl) T.isInt.g T.isInt.fn.kp T.isInt.b .nil pass0 (pa_cons (pv 3) pa_nil)) (pe_one (pe_chain op_le op_lt pe_int (pv 3) (pv 1)))))) pa_nil)))))))
      (pss_one (ps_ret pe_bl))
      pss_nil)
      (pss_one (ps_ret (pe_callB (cr_all rfl) (by rfl) T.nAll (by decide +kernel) (pa_cons (pe_lc (own := [("at", 2)]) (g := gName 2) (tt := tYes) rfl sc_isChosen.nd (pi_range1 (by rfl) T.nRange (pa_cons (pe_op op_sub (pe_callB call_len_seq (by rfl) T.nLen (by decide +kernel) (pa_cons (pv 0) pa_nil)) pe_int) pa_nil)) (blkOk_by (own := [("at", 2)]) (N := ["value", "size", "at", "item"]) (sc := defScope (top 12)) (by decide +kernel)) (fun _ _ _ _ _ => pg_name (i := 2) sc_isChosen.nd rfl (Or.inl rfl)) (fun _ _ _ _ _ => pts_nil) (fun _ _ _ _ _ => (pe_cmpR op_lt (pe_ix (r := rIxT K) ix_tup (pv 0) (pv 2) (fun _ _ => rfl)) (pe_ix (r := rIxT K) ix_tup (pv 0) (pe_op op_add (pv 2) pe_int) (fun _ _ => rfl)) (nomark _)))) pa_nil))))), ?_⟩
    have hl : (c.map V.int).length = c.length := List.length_map _
    refine ⟨_, rfl, _, _, _, _, true, rfl, .ty _, .base (.tup ha), kit_ty (by decide +kernel), true, rfl, iteF ?_⟩
    refine ⟨_, rfl, a, rfl, ⟨_, SqT.of ha⟩, fun D hD => ?_⟩
    refine lc_tup (K := K) (xs := c.map V.int) (fun i H' => Same H H' ∧ H' D = some (.lst (List.replicate i (V.bl true)))) ⟨same_new hD _, upd_same⟩ (fun i H' _ p => SqT.of (p.1 _ _ ha)) (fun i x H' hx p => ?_) (fun H' p => ?_)
    · obtain ⟨s1, e1⟩ := p
      rw [List.getElem?_map] at hx
      obtain ⟨y, hy, rfl⟩ := Option.map_eq_some_iff.mp hx
      obtain ⟨g1, g2⟩ := hm y (List.mem_of_getElem? hy)
      have hi : i < c.length := (List.getElem?_eq_some_iff.mp hy).1
      refine ⟨rfl, yes ?_⟩
      refine ⟨_, rfl, _, true, rfl, .inl ⟨y, rfl, rfl⟩, true, rfl, iteT ?_⟩
      refine ⟨_, rfl, _, _, rfl, rfl, true, congrArg V.bl (decide_eq_true g1), iteT ?_⟩
      refine ⟨_, rfl, _, _, rfl, rfl, _, e1, ?_, same_put s1 hD _, ?_⟩
      · rw [List.length_replicate]
        exact small (by omega)
      · dsimp only
        rw [upd_same, decide_eq_true g2, rep_snoc]
    · obtain ⟨s1, e1⟩ := p
      refine ⟨D, List.replicate c.length true, rfl, SqL.of (by rw [rep_map, ← hl]; exact e1), true, congrArg V.bl (rep_all _), iteF ?_⟩
      have ha1 : H' a = some (.tup (c.map V.int)) := s1 _ _ ha
      refine ⟨_, rfl, a, _, rfl, .inr (SqT.of ha1), _, _, rfl, rfl, _, rfl, ?_, ?_, fun D2 hD2 => ?_⟩
      · rw [hl]; omega
      · rw [hl]; omega
      refine lc_range (lo := 0) (n := (((c.map V.int).length : Int) - 1).toNat) (fun i H2 => Same H H2 ∧ H2 D2 = some (.lst (List.replicate i (V.bl true)))) ⟨s1.trans (same_new hD2 _), upd_same⟩ (fun i H2 hi p => ?_) (fun H2 p => ?_)
      · obtain ⟨s2, e2⟩ := p
        rw [hl] at hi
        have i1 : i < c.length := by omega
        have i2 : i + 1 < c.length := by omega
        have lt := List.pairwise_iff_getElem.mp hs i (i + 1) i1 i2 (by omega)
        have a1 : atI (c.map V.int) (0 + (i : Int)) = some (.int c[i]) := at_of (j := i) (by omega) (by rw [List.getElem?_map, List.getElem?_eq_getElem i1]; rfl)
        have a2 : atI (c.map V.int) (0 + (i : Int) + 1) = some (.int c[i + 1]) := at_of (j := i + 1) (by omega) (by rw [List.getElem?_map, List.getElem?_eq_getElem i2]; rfl)
        refine ⟨rfl, yes ?_⟩
        refine ⟨_, rfl, _, rfl, a, _, _, _, rfl, rfl, SqT.of (s2 _ _ ha), a1, _, rfl, _, rfl, _, _, rfl, rfl, a, _, _, _, rfl, rfl, SqT.of (s2 _ _ ha), a2, _, _, rfl, rfl, _, e2, ?_, same_put s2 (s1.free hD2) _, ?_⟩
        · rw [List.length_replicate]
          exact small (by omega)
        · dsimp only
          rw [upd_same, decide_eq_true lt, rep_snoc]
      · obtain ⟨s2, e2⟩ := p
        exact ⟨D2, List.replicate (((c.map V.int).length : Int) - 1).toNat true, rfl, SqL.of (by rw [rep_map]; exact e2), by rw [rep_all]; exact q _ s2⟩
/-! check_chosen -/
def spChkCh : Sp := fun vs H Q _ => ∃ (v : V) (t : Tr) (n : Nat) (a : Addr) (c : List Int), vs = [v, .ref a] ∧ TrAt H t v ∧ Ok t ∧ deep t < 6 ∧ parts t ≤ 100 ∧ n ≤ 8 ∧ (leaves t).Perm (rng n) ∧ H a = some (.tup (c.map V.int)) ∧ c.Pairwise (· < ·) ∧ (∀ x ∈ c, 0 ≤ x ∧ x < (n : Int)) ∧ c.length ≤ 100 ∧ ∀ H', Same H H' → Q .non H'
theorem sc_chkChosen : FnScope ["tree", "chosen"] ["tree", "chosen"] (defScope (top 13)) := ⟨rfl, rfl, rfl, by decide +kernel, rfl, by decide +kernel, by decide +kernel⟩
theorem ok_chkChosen (T : Txt w K mg) : FnOk P w K mg base CX0 10 T.chkChosen.f T.chkChosen.fd ["tree", "chosen"] spChkCh := by
  have Gelems := ok_elems (P := P) (base := base) T 6
  have GchkTree := ok_chkTree (P := P) (base := base) T
  have GisChosen := ok_isChosen (P := P) (base := base) T
  refine T.chkChosen.fn.ok sc_chkChosen (fun vs H Q E h => ?_) (fun cdv A outer s H vs Q E hr h => ?_)
  · obtain ⟨v, t, n, a, c, rfl, _⟩ := h
    rfl
  · obtain ⟨v, t, n, a, c, rfl, ht, ok, hd, hp, h8, hl, ha, hs, hm, h100, q⟩ := h
    refine ⟨_, (pss_cons (ps_expr (pe_call GchkTree (hr.mono (by omega)) (by rfl) T.chkTree.g T.chkTree.fn.kp T.chkTree.b .nil pass0 (pa_cons (pv 0) pa_nil)))
      (pss_one (ps_if (pt_not (pt_val (pe_call GisChosen (hr.mono (by omega)) (by rfl) T.isChosen.g T.isChosen.fn.kp T.isChosen.b .nil pass0 (pa_cons (pv 1) (pa_cons (pe_callB call_len_seq (by rfl) T.nLen (by decide +kernel) (pa_cons (pe_call Gelems (hr.mono (by omega)) (by rfl) T.elems.g T.elems.fn.kp T.elems.b .nil pass0 (pa_cons (pv 0) pa_nil)) pa_nil)) pa_nil)))))
      (pss_one ps_never)
      pss_nil))), ?_⟩
    have len : (leaves t).length = n := by rw [hl.length_eq, rng_len]
    refine ⟨_, rfl, v, t, n, rfl, ht, ok, hd, hp, h8, hl, fun H1 s1 => ?_⟩
    refine ⟨_, rfl, _, rfl, v, t, rfl, ht.keep (tups_same s1), hd, hp, fun H2 p2 s2 n2 e2 => ?_⟩
    refine ⟨p2, _, rfl, .inl (SqL.of e2), ?_⟩
    rw [List.length_map, len]
    refine ⟨a, c, n, rfl, s2 _ _ (s1 _ _ ha), hs, hm, h100, fun H3 s3 => ⟨true, rfl, iteF ?_⟩⟩
    exact q H3 ((s1.trans s2).trans s3)
/-! neighbouring -/
def spNeigh : Sp := fun vs H Q _ => ∃ (c : Addr) (us : List V) (cs pre mid post : List Tr) (ch : Addr), vs = [.ref c, .ref ch] ∧ H c = some (.tup us) ∧ TrsAt H cs us ∧ cs = pre ++ (mid ++ post) ∧ mid ≠ [] ∧ H ch = some (.tup ((srt (leavesL mid)).map V.int)) ∧ deepL cs < 6 ∧ partsL cs ≤ 100 ∧ ∀ H', Same H H' → Q (.bl true) H'
theorem sc_neigh : FnScope ["parts", "chosen", "start", "found", "part"] ["parts", "chosen"] (defScope (top 14)) := ⟨rfl, rfl, rfl, by decide +kernel, rfl, by decide +kernel, by decide +kernel⟩
theorem ok_neigh (T : Txt w K mg) : FnOk P w K mg base CX0 8 T.neigh.f T.neigh.fd ["parts", "chosen"] spNeigh := by
  have Gelems := ok_elems (P := P) (base := base) T 6
  refine T.neigh.fn.ok sc_neigh (fun vs H Q E h => ?_) (fun cdv A outer s H vs Q E hr h => ?_)
  · obtain ⟨c, us, cs, pre, mid, post, ch, rfl, _⟩ := h
    rfl
  · obtain ⟨c, us, cs, pre, mid, post, ch, rfl, hc, hts, ecs, hmid, hch, hd, hp, q⟩ := h
    refine ⟨_, (pss_cons (ps_for PassesOwn.never rfl (pi_range1 (by rfl) T.nRange (pa_cons (pe_callB call_len_seq (by rfl) T.nLen (by decide +kernel) (pa_cons (pv 0) pa_nil)) pa_nil)) (pg_name (i := 2) sc_neigh.nd rfl (Or.inl rfl))
      (pss_cons (ps_set (i := 3) sc_neigh.nd rfl (Or.inl rfl) (pe_lst pa_nil))
      (pss_one (ps_for PassesOwn.never rfl (pi_tup (pe_slice (r := rSlB K) sl_tupB (pv 0) (po_some (pv 2)) po_none)) (pg_name (i := 4) sc_neigh.nd rfl (Or.inl rfl))
      (pss_cons (ps_expr (pe_bm PySem.F.plainAttrs_list PySem.F.slot_list_extend PySem.F.type_list_extend mt_extend (pv 3) (pa_cons (pe_call Gelems (hr.mono (by omega)) (by rfl) T.elems.g T.elems.fn.kp T.elems.b .nil pass0 (pa_cons (pv 4) pa_nil)) pa_nil)))
      (pss_one (ps_if (pt_cmpR (op_eqD hr.units) (pe_callTy call_tuple_of (by rfl) T.nTuple (by decide +kernel) (pa_cons (pe_callB cr_sortedI (by rfl) T.nSorted (by decide +kernel) (pa_cons (pv 3) pa_nil)) pa_nil)) (pv 1) (nomark _))
      (pss_one (ps_ret pe_bl))
      pss_nil)))))))
      (pss_one (ps_ret pe_bl))), ?_⟩
    have hlen := hts.len
    have hcl : cs.length = pre.length + (mid.length + post.length) := by rw [ecs, List.length_append, List.length_append]
    have hml : 0 < mid.length := List.length_pos_iff.mpr hmid
    have hcp := len_parts cs
    refine ⟨_, rfl, c, us, rfl, .inr (SqT.of hc), _, rfl, by omega, by omega, ?_⟩
    rw [Int.toNat_natCast]
    refine for_range (lo := 0) (n := us.length) (fun i σ H' => i ≤ pre.length ∧ (∃ y z u, σ = [some (.ref c), some (.ref ch), y, z, u]) ∧ Same H H') ⟨Nat.zero_le _, ⟨_, _, _, rfl⟩, Same.refl H⟩ (fun i σ H' hi p => ?_) (fun σ H' p => ?_)
    · obtain ⟨hip, ⟨y, z, u, rfl⟩, s1⟩ := p
      refine ⟨Nat.zero_le _, fun o no => ?_⟩
      have s2 : Same H (upd H' o (.lst [])) := s1.trans (same_new no _)
      have no0 : H o = none := s1.free no
      have hi' : i < cs.length := by omega
      refine ⟨_, rfl, _, rfl, _, rfl, c, us, rfl, SqT.of (s2 _ _ hc), fun d H2 s3 hd2 => ?_⟩
      rw [show (0 + (i : Int)) = (i : Int) from Int.zero_add _, cut_drop us i (by omega)] at hd2
      refine ⟨d, rfl, ⟨_, hd2⟩, ?_⟩
      have s4 : Same H H2 := s2.trans s3
      refine for_tup (K := K) (xs := us.drop i) (fun j σ H3 => (i = pre.length → j < mid.length) ∧ (∃ y u, σ = [some (.ref c), some (.ref ch), y, some (.ref o), u]) ∧ Same H H3 ∧ SqT K H3 d (us.drop i) ∧ H3 o = some (.lst ((leavesL ((cs.drop i).take j)).map V.int)))
        ⟨fun _ => hml, ⟨_, _, rfl⟩, s4, hd2, by rw [s3 _ _ upd_same]; simp [leavesL]⟩ (fun j σ H3 _ p => p.2.2.2.1) (fun j x σ H3 hx p => ?_) (fun σ H3 p => ?_)
      · obtain ⟨hj, ⟨y, u, rfl⟩, s5, hd3, e3⟩ := p
        rw [List.getElem?_drop] at hx
        obtain ⟨t, ht, hv⟩ := hts.get hx
        have htm : t ∈ cs := List.mem_of_getElem? ht
        have htd : (cs.drop i)[j]? = some t := by rw [List.getElem?_drop]; exact ht
        refine ⟨.ref o, rfl, .inl ⟨rfl, _, SqL.of e3⟩, _, rfl, x, t, rfl, hv.keep (tups_same s5), Nat.lt_of_le_of_lt (deepL_le htm) hd, Nat.le_trans (mem_parts htm) hp, fun H4 r s6 nr er => ?_⟩
        have e4 := s6 _ _ e3
        have em : leavesL ((cs.drop i).take (j + 1)) = leavesL ((cs.drop i).take j) ++ leaves t := by rw [take_snoc htd, leavesL_snoc]
        have sz : (leavesL ((cs.drop i).take (j + 1))).length ≤ 100 := by
          have h1 := leavesL_take (cs := cs.drop i) (j + 1)
          have h2 := leavesL_append (cs.take i) (cs.drop i)
          rw [List.take_append_drop] at h2
          have h3 := leavesL_parts cs
          have h4 := congrArg List.length h2
          rw [List.length_append] at h4
          omega
        refine ⟨o, r, _, _, rfl, rfl, e4, er, ?_, ?_⟩
        · rw [em, List.length_append] at sz
          rw [List.length_map, List.length_map]
          exact small' (by omega)
        rw [← List.map_append, ← em]
        have s7 : Same H (upd H4 o (.lst ((leavesL ((cs.drop i).take (j + 1))).map V.int))) := same_put (s5.trans s6) no0 _
        refine ⟨_, rfl, o, _, rfl, SqL.of upd_same, fun ns p2 pm so n2 => ?_⟩
        rw [srt_uniq pm so]
        refine ⟨p2, _, rfl, .inl ⟨SqL.of upd_same, fun l nl => ?_⟩⟩
        have s8 := s7.trans (same_new n2 (.lst ((srt (leavesL ((cs.drop i).take (j + 1)))).map V.int)))
        have s9 := s8.trans (same_new nl (.tup ((srt (leavesL ((cs.drop i).take (j + 1)))).map V.int)))
        refine ⟨_, rfl, tupD (srt (leavesL ((cs.drop i).take (j + 1)))), tupD (srt (leavesL mid)), dp_tup ⟨l, rfl, upd_same⟩, dp_tup ⟨ch, rfl, s9 _ _ hch⟩, tupD_shaped _, tupD_shaped _, _, rfl, ?_⟩
        rw [eqv_tup]
        refine ite2 (fun e => q _ s9) (fun e => ⟨fun hi => ?_, ⟨_, _, rfl⟩, s9, ?_, ?_⟩)
        · have hj' := hj hi
          have ne : j + 1 ≠ mid.length := fun z => e (decide_eq_true (by
            rw [hi, ecs, List.drop_left, z, List.take_left]))
          omega
        · exact sqT_keep (same_new nl _) (sqT_keep (same_new n2 _) (sqT_put (sqT_keep s6 hd3) e4))
        · exact (same_new nl _) _ _ ((same_new n2 _) _ _ upd_same)
      · obtain ⟨hj, ⟨y, u, rfl⟩, s5, _, _⟩ := p
        refine ⟨?_, ⟨_, _, _, rfl⟩, s5⟩
        have hl : (us.drop i).length = us.length - i := List.length_drop
        have : i ≠ pre.length := fun z => by
          have := hj z
          omega
        omega
    · obtain ⟨hip, _, _⟩ := p
      exact absurd hip (by omega)
end
end Kt
/-! ## KtP4 -/
namespace Kt
open PySem L2 PyProof.Rows
section
variable {P : Program} {w : World} {K : PySem.W.Frag} {mg : Str → Option Value} {base : Heap}
/-! is_fitting -/
def AllIn (c : List Int) (t : Tr) : Prop := ∀ x ∈ c, x ∈ leaves t
/-- what holds before the i-th child is looked at -/
def Look (b : Bool) (cs : List Tr) (c : List Int) (i : Nat) : Prop :=
  (∃ pre d post, cs = pre ++ d :: post ∧ (∀ e ∈ pre, ¬ AllIn c e) ∧ AllIn c d ∧ Fit d c ∧ i ≤ pre.length) ∨
  (b = true ∧ (∃ pre mid post, cs = pre ++ (mid ++ post) ∧ mid ≠ [] ∧ c = srt (leavesL mid)) ∧ ∀ e ∈ cs, ¬ AllIn c e)
theorem look_start {b : Bool} {cs : List Tr} {c : List Int} (h : Fit (.node b cs) c) (hn : c ≠ srt (leavesL cs)) : Look b cs c 0 := by
  cases h with
  | whole => exact absurd (by rw [leaves]) hn
  | into h1 h2 h3 => exact .inl ⟨_, _, _, rfl, h1, h2, h3, Nat.zero_le _⟩
  | seg h0 h1 => exact .inr ⟨rfl, ⟨_, _, _, rfl, h0, rfl⟩, h1⟩
theorem look_yes {b : Bool} {cs : List Tr} {c : List Int} {i : Nat} {t : Tr} (h : Look b cs c i) (ht : cs[i]? = some t) (ha : AllIn c t) : Fit t c := by
  rcases h with ⟨pre, d, post, rfl, h1, h2, h3, hi⟩ | ⟨_, _, h⟩
  · rcases Nat.lt_or_eq_of_le hi with q | q
    · rw [List.getElem?_append_left q] at ht
      exact absurd ha (h1 t (List.mem_of_getElem? ht))
    · subst q
      rw [List.getElem?_append_right (Nat.le_refl _), Nat.sub_self] at ht
      cases Option.some.inj ht
      exact h3
  · exact absurd ha (h t (List.mem_of_getElem? ht))
theorem look_no {b : Bool} {cs : List Tr} {c : List Int} {i : Nat} {t : Tr} (h : Look b cs c i) (ht : cs[i]? = some t) (ha : ¬ AllIn c t) : Look b cs c (i + 1) := by
  rcases h with ⟨pre, d, post, rfl, h1, h2, h3, hi⟩ | h
  · refine .inl ⟨pre, d, post, rfl, h1, h2, h3, ?_⟩
    rcases Nat.lt_or_eq_of_le hi with q | q
    · exact q
    · subst q
      rw [List.getElem?_append_right (Nat.le_refl _), Nat.sub_self] at ht
      cases Option.some.inj ht
      exact absurd h2 ha
  · exact .inr h
theorem look_end {b : Bool} {cs : List Tr} {c : List Int} (h : Look b cs c cs.length) : b = true ∧ ∃ pre mid post, cs = pre ++ (mid ++ post) ∧ mid ≠ [] ∧ c = srt (leavesL mid) := by
  rcases h with ⟨pre, d, post, rfl, h1, h2, h3, hi⟩ | ⟨hb, h, _⟩
  · rw [List.length_append, List.length_cons] at hi
    omega
  · exact ⟨hb, h⟩
def spFit (n : Nat) : Sp := fun vs H Q _ => ∃ (v : V) (t : Tr) (ch : Addr) (c : List Int), vs = [v, .ref ch] ∧ TrAt H t v ∧ H ch = some (.tup (c.map V.int)) ∧ Fit t c ∧ deep t < n ∧ deep t < 6 ∧ parts t ≤ 100 ∧ c.length ≤ 100 ∧ ∀ H', Same H H' → Q (.bl true) H'
theorem sc_isFit : FnScope ["tree", "chosen", "child", "element"] ["tree", "chosen"] (defScope (top 15)) := ⟨rfl, rfl, rfl, by decide +kernel, rfl, by decide +kernel, by decide +kernel⟩
theorem ok_isFit (T : Txt w K mg) : ∀ n, FnOk P w K mg base CX0 (n + 8) T.isFit.f T.isFit.fd ["tree", "chosen"] (spFit n)
  | 0 => none_left fun vs H Q E h => by
    obtain ⟨v, t, ch, c, _, _, _, _, h1, _⟩ := h
    exact absurd h1 (Nat.not_lt_zero _)
  | n + 1 => by
    have GisFit := ok_isFit T n
    have Gelems := ok_elems (P := P) (base := base) T 6
    have Gcont := ok_cont (P := P) (base := base) T
    have Gneigh := ok_neigh (P := P) (base := base) T
    refine T.isFit.fn.ok sc_isFit (fun vs H Q E h => ?_) (fun cdv A outer s H vs Q E hr h => ?_)
    · obtain ⟨v, t, ch, c, rfl, _⟩ := h
      rfl
    · obtain ⟨v, t, ch, c, rfl, ht, hch, hf, hd, hd6, hp, hc, q⟩ := h
      refine ⟨_, (pss_cons (ps_if (PW.pt (pw_or (pt_cmpR op_lt (pe_callB call_len_seq (by rfl) T.nLen (by decide +kernel) (pa_cons (pv 1) pa_nil)) pe_int (nomark _)) (pw_or1 (pt_cmpR (op_eqD hr.units) (pv 1) (pe_call Gcont (hr.mono (by omega)) (by rfl) T.cont.g T.cont.fn.kp T.cont.b .nil pass0 (pa_cons (pv 0) pa_nil)) (nomark _)))))
        (pss_one (ps_ret pe_bl))
        pss_nil)
        (pss_cons (ps_for PassesOwn.never rfl (pi_tup (pe_ix (r := rIxT K) ix_tup (pv 0) pe_int (fun _ _ => rfl))) (pg_name (i := 2) sc_isFit.nd rfl (Or.inr rfl))
        (pss_one (ps_if (pt_val (pe_callB (cr_all rfl) (by rfl) T.nAll (by decide +kernel) (pa_cons (pe_lc (own := [("element", 3)]) (g := gName 3) (tt := tYes) rfl sc_isFit.nd (pi_tup (pv 1)) (blkOk_by (own := [("element", 3)]) (N := ["tree", "chosen", "child", "element"]) (sc := defScope (top 15)) (by decide +kernel)) (fun _ _ _ _ _ => pg_name (i := 3) sc_isFit.nd rfl (Or.inl rfl)) (fun _ _ _ _ _ => pts_nil) (fun _ _ _ _ _ => (pe_cmpR (r := rIn K false) op_in_seq (pv 3) (pe_call Gelems (hr.mono (by omega)) (by rfl) T.elems.g T.elems.fn.kp T.elems.b .nil pass0 (pa_cons (pv 2) pa_nil)) rfl))) pa_nil)))
        (pss_one (ps_ret (pe_call GisFit (hr.mono (by omega)) (by rfl) T.isFit.g T.isFit.fn.kp T.isFit.b .nil pass0 (pa_cons (pv 2) (pa_cons (pv 1) pa_nil)))))
        pss_nil)))
        (pss_one (ps_ret (pe_and (pe_cmpR op_eq (pe_ix (r := rIxT K) ix_tup (pv 0) pe_int (fun _ _ => rfl)) pe_str (nomark _)) (pe_one (pe_call Gneigh (hr.mono (by omega)) (by rfl) T.neigh.g T.neigh.fn.kp T.neigh.b .nil pass0 (pa_cons (pe_ix (r := rIxT K) ix_tup (pv 0) pe_int (fun _ _ => rfl)) (pa_cons (pv 1) pa_nil))))))))), ?_⟩
      have hl : (c.map V.int).length = c.length := List.length_map _
      refine ⟨_, rfl, ch, _, rfl, .inr (SqT.of hch), _, _, rfl, rfl, _, rfl, ite2 (fun _ => iteT (q H (Same.refl H))) (fun h2 => ?_)⟩
      have h2' : ¬ ((c.map V.int).length : Int) < 2 := fun z => h2 (decide_eq_true z)
      rw [hl] at h2'
      refine ⟨_, rfl, _, rfl, v, t, rfl, ht, hd6, hp, fun H1 p1 s1 e1 => ?_⟩
      refine ⟨tupD c, tupD (srt (leaves t)), dp_tup ⟨ch, rfl, s1 _ _ hch⟩, dp_tup ⟨p1, rfl, e1⟩, tupD_shaped _, tupD_shaped _, _, rfl, ?_⟩
      rw [eqv_tup]
      refine ite2 (fun _ => q _ s1) (fun hne => ?_)
      have hne' : c ≠ srt (leaves t) := fun z => hne (decide_eq_true z)
      have ht1 := ht.keep (tups_same s1)
      cases t with
      | leaf i =>
        exfalso
        generalize ht2 : Tr.leaf i = t2 at hf hne'
        cases hf with
        | whole => exact hne' rfl
        | into => cases ht2
        | seg => cases ht2
      | node b cs =>
        rw [TrAt] at ht1
        obtain ⟨a, k, us, rfl, ha, hk, hts⟩ := ht1
        rw [leaves] at hne'
        rw [deep] at hd hd6
        rw [parts] at hp
        have hlen := hts.len
        refine ⟨_, rfl, a, _, 1, _, rfl, rfl, SqT.of ha, atI_nat (j := 1) rfl, k, rfl, ⟨_, SqT.of hk⟩, ?_⟩
        refine for_tup (K := K) (xs := us) (fun i σ H' => Look b cs c i ∧ (∃ y z, σ = [some (.ref a), some (.ref ch), y, z]) ∧ Same H1 H') ⟨look_start hf hne', ⟨_, _, rfl⟩, Same.refl _⟩ (fun i σ H' _ p => SqT.of (p.2.2 _ _ hk)) (fun i x σ H' hx p => ?_) (fun σ H' p => ?_)
        · obtain ⟨lk, ⟨y, z, rfl⟩, s2⟩ := p
          obtain ⟨t, ht, hv⟩ := hts.get hx
          have htm : t ∈ cs := List.mem_of_getElem? ht
          have hch2 : H' ch = some (.tup (c.map V.int)) := s2 _ _ (s1 _ _ hch)
          refine ⟨_, rfl, ch, rfl, ⟨_, SqT.of hch2⟩, fun D hD => ?_⟩
          refine lc_tup (K := K) (xs := c.map V.int) (fun j H3 => Same H' H3 ∧ H3 D = some (.lst ((((c.take j).map fun x => decide (x ∈ leaves t))).map V.bl))) ⟨same_new hD _, upd_same⟩ (fun j H3 _ p => SqT.of (p.1 _ _ hch2)) (fun j u H3 hu p => ?_) (fun H3 p => ?_)
          · obtain ⟨s3, e3⟩ := p
            rw [List.getElem?_map] at hu
            obtain ⟨e, he, rfl⟩ := Option.map_eq_some_iff.mp hu
            have hj : j < c.length := (List.getElem?_eq_some_iff.mp he).1
            refine ⟨rfl, yes ?_⟩
            refine ⟨_, rfl, _, rfl, x, t, rfl, hv.keep (tups_same (s2.trans s3)), Nat.lt_of_le_of_lt (deepL_le htm) (by omega), Nat.le_trans (mem_parts htm) (by omega), fun H4 p4 s4 n4 e4 => ?_⟩
            refine ⟨p4, _, rfl, .inl (SqL.of e4), rfl, flat_ints _, _, s4 _ _ e3, ?_, same_put (s3.trans s4) hD _, ?_⟩
            · rw [List.length_map, List.length_map, List.length_take]
              exact small (by omega)
            · rw [upd_same, take_snoc he, List.map_append, List.map_append]
              show some (HO.lst (_ ++ [V.bl (inV (.int e) ((leaves t).map V.int))])) = _
              rw [in_ints]
              rfl
          · obtain ⟨s3, e3⟩ := p
            rw [hl, List.take_length] at e3
            refine ⟨D, _, rfl, SqL.of e3, _, rfl, ?_⟩
            rw [bools_all]
            refine ite2 (fun e => ?_) (fun e => ?_)
            · have al : AllIn c t := fun u hu => of_decide_eq_true (List.all_eq_true.mp e u hu)
              have s4 := s2.trans s3
              exact ⟨_, rfl, _, rfl, x, t, ch, c, rfl, hv.keep (tups_same s4), s3 _ _ hch2, look_yes lk ht al, Nat.lt_of_le_of_lt (deepL_le htm) (by omega), Nat.lt_of_le_of_lt (deepL_le htm) (by omega), Nat.le_trans (mem_parts htm) (by omega), hc, fun H5 s5 => q H5 ((s1.trans s4).trans s5)⟩
            · have al : ¬ AllIn c t := fun z => e (List.all_eq_true.mpr fun u hu => decide_eq_true (z u hu))
              exact ⟨look_no lk ht al, ⟨_, _, rfl⟩, s2.trans s3⟩
        · obtain ⟨lk, ⟨y, z, rfl⟩, s2⟩ := p
          rw [hlen] at lk
          obtain ⟨rfl, pre, mid, post, ecs, hm, ec⟩ := look_end lk
          refine ⟨_, rfl, a, _, 0, _, rfl, rfl, SqT.of (s2 _ _ ha), atI_nat (j := 0) rfl, rfl, true, congrArg V.bl (decide_eq_true rfl), iteT ?_⟩
          exact ⟨_, rfl, a, _, 1, _, rfl, rfl, SqT.of (s2 _ _ ha), atI_nat (j := 1) rfl, _, rfl, k, us, cs, pre, mid, post, ch, rfl, s2 _ _ hk, hts.keep (tups_same s2), ecs, hm, by rw [← ec]; exact s2 _ _ (s1 _ _ hch), by omega, by omega, fun H3 s3 => q H3 ((s1.trans s2).trans s3)⟩
/-! fits -/
def spFits : Sp := fun vs H Q _ => ∃ (v : V) (t : Tr) (n : Nat) (ch : Addr) (c : List Int), vs = [v, .ref ch] ∧ TrAt H t v ∧ Ok t ∧ deep t < 6 ∧ parts t ≤ 100 ∧ n ≤ 8 ∧ (leaves t).Perm (rng n) ∧ H ch = some (.tup (c.map V.int)) ∧ Told t c ∧ ∀ H', Same H H' → Q (.bl true) H'
theorem sc_fits : FnScope ["tree", "chosen"] ["tree", "chosen"] (defScope (top 16)) := ⟨rfl, rfl, rfl, by decide +kernel, rfl, by decide +kernel, by decide +kernel⟩
theorem ok_fits (T : Txt w K mg) : FnOk P w K mg base CX0 15 T.fits.f T.fits.fd ["tree", "chosen"] spFits := by
  have GisFit := ok_isFit (P := P) (base := base) T 6
  have GchkChosen := ok_chkChosen (P := P) (base := base) T
  refine T.fits.fn.ok sc_fits (fun vs H Q E h => ?_) (fun cdv A outer s H vs Q E hr h => ?_)
  · obtain ⟨v, t, n, ch, c, rfl, _⟩ := h
    rfl
  · obtain ⟨v, t, n, ch, c, rfl, ht, ok, hd, hp, h8, hl, hch, td, q⟩ := h
    refine ⟨_, (pss_cons (ps_expr (pe_call GchkChosen (hr.mono (by omega)) (by rfl) T.chkChosen.g T.chkChosen.fn.kp T.chkChosen.b .nil pass0 (pa_cons (pv 0) (pa_cons (pv 1) pa_nil))))
      (pss_one (ps_ret (pe_call GisFit (hr.mono (by omega)) (by rfl) T.isFit.g T.isFit.fn.kp T.isFit.b .nil pass0 (pa_cons (pv 0) (pa_cons (pv 1) pa_nil)))))), ?_⟩
    have nd : (leaves t).Nodup := hl.nodup_iff.mpr (rng_nodup n)
    have hcl : c.length ≤ 100 := by
      have h1 := told_len td
      have h2 := leaves_parts t
      omega
    refine ⟨_, rfl, _, rfl, v, t, n, ch, c, rfl, ht, ok, hd, hp, h8, hl, hch, told_strict td nd, fun x hx => mem_rng.mp (hl.mem_iff.mp (told_mem td x hx)), hcl, fun H1 s1 => ?_⟩
    exact ⟨_, rfl, _, rfl, v, t, ch, c, rfl, ht.keep (tups_same s1), s1 _ _ hch, told_fit td ok nd, hd, hd, hp, hcl, fun H2 s2 => q H2 (s1.trans s2)⟩
end
end Kt
/-! ## KtP5 -/
namespace Kt
open PySem L2 PyProof.Rows
theorem contents_snoc (l : List Tr) (t : Tr) : contents (l ++ [t]) = contents l ++ (if t.isLeaf then [] else [srt (leaves t)]) := by
  unfold contents
  rw [List.filter_append, List.map_append]
  cases h : t.isLeaf <;> simp [h]
theorem neigh_get : ∀ {cs : List Tr} {i : Nat} {t u : Tr}, cs[i]? = some t → cs[i + 1]? = some u → (neigh cs)[i]? = some (srt (leaves t ++ leaves u))
  | [], _, _, _, h, _ => by simp at h
  | [a], i, _, _, _, h => by simp at h
  | a :: b :: r, 0, t, u, h1, h2 => by
    simp at h1 h2
    rw [neigh, h1, h2]
    simp
  | a :: b :: r, i + 1, t, u, h1, h2 => by
    rw [neigh]
    have := neigh_get (cs := b :: r) (i := i) (by simpa using h1) (by simpa using h2)
    simpa using this
theorem neigh_size : ∀ cs : List Tr, (neigh cs).length = cs.length - 1
  | [] => by simp [neigh]
  | [a] => by simp [neigh]
  | a :: b :: r => by
    have := neigh_size (b :: r)
    rw [neigh]
    simp only [List.length_cons] at *
    omega
theorem word_turn (b : Bool) : decide (V.str (word b) = V.str "turn") = b := by
  cases b <;> decide
theorem toldByL_snoc (ts : List Tr) (t : Tr) : toldByL (ts ++ [t]) = toldByL ts ++ toldBy t := by
  rw [toldByL_append, toldByL, toldByL, List.append_nil]
theorem toldByL_take {cs : List Tr} (k : Nat) : (toldByL (cs.take k)).length ≤ (toldByL cs).length := by
  have := toldByL_append (cs.take k) (cs.drop k)
  rw [List.take_append_drop] at this
  rw [this, List.length_append]
  omega
section
variable {P : Program} {w : World} {K : PySem.W.Frag} {mg : Str → Option Value} {base : Heap}
/-! told_by -/
def spTold (n : Nat) : Sp := fun vs H Q _ => ∃ (v : V) (t : Tr), vs = [v] ∧ TrAt H t v ∧ deep t < n ∧ deep t < 6 ∧ parts t ≤ 100 ∧ ∀ H' p xs, Same H H' → H p = none → H' p = some (.lst xs) → TupsAt H' xs (toldBy t) → Q (.ref p) H'
theorem sc_toldBy : FnScope ["tree", "found", "at", "child"] ["tree"] (defScope (top 17)) := ⟨rfl, rfl, rfl, by decide +kernel, rfl, by decide +kernel, by decide +kernel⟩
theorem ok_toldBy (T : Txt w K mg) : ∀ n, FnOk P w K mg base CX0 (n + 8) T.toldBy.f T.toldBy.fd ["tree"] (spTold n)
  | 0 => none_left fun vs H Q E h => by
    obtain ⟨v, t, _, _, h1, _⟩ := h
    exact absurd h1 (Nat.not_lt_zero _)
  | n + 1 => by
    have GtoldBy := ok_toldBy T n
    have GisInt := ok_isInt (P := P) (base := base) T
    have Gelems := ok_elems (P := P) (base := base) T 6
    have Gcont := ok_cont (P := P) (base := base) T
    refine T.toldBy.fn.ok sc_toldBy (fun vs H Q E h => ?_) (fun cdv A outer s H vs Q E hr h => ?_)
    · obtain ⟨v, t, rfl, _⟩ := h
      rfl
    · obtain ⟨v, t, rfl, ht, hd, hd6, hp, q⟩ := h
      refine ⟨_, (pss_cons (ps_if (pt_val (pe_call GisInt (hr.mono (by omega)) (by rfl) T.isInt.g T.isInt.fn.kp T.isInt.b .nil pass0 (pa_cons (pv 0) pa_nil)))
        (pss_one (ps_ret (pe_lst pa_nil)))
        pss_nil)
        (pss_cons (ps_setLc (i := 1) (own := [("child", 3)]) (g := gName 3) rfl sc_toldBy.nd rfl rfl (sw_true rfl rfl rfl (by decide +kernel)) (pi_tup (pe_ix (r := rIxT K) ix_tup (pv 0) pe_int (fun _ _ => rfl))) (blkOk_by (own := [("child", 3)]) (N := ["tree", "found", "at", "child"]) (sc := defScope (top 17)) (by decide +kernel)) (fun _ _ _ _ _ => pg_name (i := 3) sc_toldBy.nd rfl (Or.inl rfl)) (fun _ _ _ _ _ => (pts_one (pt_not (pt_val (pe_call GisInt (hr.mono (by omega)) (by rfl) T.isInt.g T.isInt.fn.kp T.isInt.b .nil pass0 (pa_cons (pv 3) pa_nil)))))) (fun _ _ _ _ _ => (pe_call Gcont (hr.mono (by omega)) (by rfl) T.cont.g T.cont.fn.kp T.cont.b .nil pass0 (pa_cons (pv 3) pa_nil))))
        (pss_cons (ps_if (pt_cmpR op_eq (pe_ix (r := rIxT K) ix_tup (pv 0) pe_int (fun _ _ => rfl)) pe_str (nomark _))
        (pss_one (ps_for PassesOwn.never rfl (pi_range1 (by rfl) T.nRange (pa_cons (pe_op op_sub (pe_callB call_len_seq (by rfl) T.nLen (by decide +kernel) (pa_cons (pe_ix (r := rIxT K) ix_tup (pv 0) pe_int (fun _ _ => rfl)) pa_nil)) pe_int) pa_nil)) (pg_name (i := 2) sc_toldBy.nd rfl (Or.inl rfl))
        (pss_one (ps_expr (pe_bm PySem.F.plainAttrs_list PySem.F.slot_list_append PySem.F.type_list_append mt_append (pv 1) (pa_cons (pe_callTy call_tuple_of (by rfl) T.nTuple (by decide +kernel) (pa_cons (pe_callB cr_sortedI (by rfl) T.nSorted (by decide +kernel) (pa_cons (pe_op op_cat (pe_call Gelems (hr.mono (by omega)) (by rfl) T.elems.g T.elems.fn.kp T.elems.b .nil pass0 (pa_cons (pe_ix (r := rIxT K) ix_tup (pe_ix (r := rIxT K) ix_tup (pv 0) pe_int (fun _ _ => rfl)) (pv 2) (fun _ _ => rfl)) pa_nil)) (pe_call Gelems (hr.mono (by omega)) (by rfl) T.elems.g T.elems.fn.kp T.elems.b .nil pass0 (pa_cons (pe_ix (r := rIxT K) ix_tup (pe_ix (r := rIxT K) ix_tup (pv 0) pe_int (fun _ _ => rfl)) (pe_op op_add (pv 2) pe_int) (fun _ _ => rfl)) pa_nil))) pa_nil)) pa_nil)) pa_nil))))))
        pss_nil)
        (pss_cons (ps_for PassesOwn.never rfl (pi_tup (pe_ix (r := rIxT K) ix_tup (pv 0) pe_int (fun _ _ => rfl))) (pg_name (i := 3) sc_toldBy.nd rfl (Or.inl rfl))
        (pss_one (ps_expr (pe_bm PySem.F.plainAttrs_list PySem.F.slot_list_extend PySem.F.type_list_extend mt_extend (pv 1) (pa_cons (pe_call GtoldBy (hr.mono (by omega)) (by rfl) T.toldBy.g T.toldBy.fn.kp T.toldBy.b .nil pass0 (pa_cons (pv 3) pa_nil)) pa_nil)))))
        (pss_one (ps_ret (pv 1))))))), ?_⟩
      cases t with
      | leaf i =>
        rw [TrAt] at ht
        subst ht
        refine ⟨_, rfl, _, true, rfl, .inl ⟨i, rfl, rfl⟩, true, rfl, iteT ?_⟩
        refine ⟨Nat.zero_le _, fun p np => q _ p [] (same_new np _) np upd_same ?_⟩
        rw [toldBy]
        exact .nil
      | node b cs =>
        have tl := toldBy_len (.node b cs)
        rw [TrAt] at ht
        obtain ⟨a, k, us, rfl, ha, hk, hts⟩ := ht
        rw [deep] at hd hd6
        rw [parts] at hp tl
        rw [toldBy, List.length_append, List.length_append] at tl
        have hlen := hts.len
        have hcp := len_parts cs
        refine ⟨_, rfl, _, false, rfl, .inr ⟨a, _, rfl, ha, rfl⟩, false, rfl, iteF ?_⟩
        refine ⟨_, rfl, a, _, 1, _, rfl, rfl, SqT.of ha, atI_nat (j := 1) rfl, k, rfl, ⟨_, SqT.of hk⟩, fun D hD => ?_⟩
        refine lc_tup (K := K) (xs := us) (fun i H' => Same H H' ∧ ∃ xs, H' D = some (.lst xs) ∧ TupsAt H' xs (contents (cs.take i))) ⟨same_new hD _, [], upd_same, .nil⟩ (fun i H' _ p => SqT.of (p.1 _ _ hk)) (fun i x H' hx p => ?_) (fun H1 p => ?_)
        · obtain ⟨s1, xs, e1, h1⟩ := p
          obtain ⟨t, ht, hv⟩ := hts.get hx
          have htm : t ∈ cs := List.mem_of_getElem? ht
          have hv1 := hv.keep (tups_same s1)
          refine ⟨rfl, ?_⟩
          refine ⟨_, rfl, x, t.isLeaf, rfl, tr_int hv1, t.isLeaf, rfl, ?_⟩
          cases hl : t.isLeaf with
          | true =>
            refine iteF ⟨s1, xs, e1, ?_⟩
            rw [take_snoc ht, contents_snoc, hl, if_pos rfl, List.append_nil]
            exact h1
          | false =>
            refine iteT ?_
            refine ⟨_, rfl, x, t, rfl, hv1, Nat.lt_of_le_of_lt (deepL_le htm) (by omega), Nat.le_trans (mem_parts htm) (by omega), fun H4 p4 s4 e4 => ?_⟩
            refine ⟨xs, s4 _ _ e1, ?_, same_put (s1.trans s4) hD _, _, upd_same, ?_⟩
            · have z1 := Paired.length h1
              have z2 := contents_len (cs.take i)
              have z3 : (cs.take i).length ≤ cs.length := by rw [List.length_take]; omega
              exact small (by omega)
            · rw [take_snoc ht, contents_snoc, hl, if_neg Bool.false_ne_true]
              have hDp : p4 ≠ D := ne_of e4 (s4 _ _ e1) (fun z => nomatch z)
              exact paired_app (h1.keep (tups_put (tups_same s4) e1)) (.cons ⟨p4, rfl, by rw [upd_ne hDp]; exact e4⟩ .nil)
        obtain ⟨s1, xs1, e1, h1⟩ := p
        rw [hlen, List.take_length] at h1
        refine ⟨_, rfl, a, _, 0, _, rfl, rfl, SqT.of (s1 _ _ ha), atI_nat (j := 0) rfl, rfl, b, congrArg V.bl (word_turn b), ?_⟩
        refine ite_key (fun σ H' => (∃ y z, σ = [some (.ref a), some (.ref D), y, z]) ∧ Same H H' ∧ ∃ xs, H' D = some (.lst xs) ∧ TupsAt H' xs (contents cs ++ (bif b then neigh cs else []))) (fun σ H' p => ?_) (fun hb key => ?_) (fun hb => ?_)
        · -- the children's own sets
          obtain ⟨⟨y, z, rfl⟩, s2, xs2, e2, h2⟩ := p
          refine ⟨_, rfl, a, _, 1, _, rfl, rfl, SqT.of (s2 _ _ ha), atI_nat (j := 1) rfl, k, rfl, ⟨_, SqT.of (s2 _ _ hk)⟩, ?_⟩
          refine for_tup (K := K) (xs := us) (fun i σ H' => (∃ y z, σ = [some (.ref a), some (.ref D), y, z]) ∧ Same H H' ∧ ∃ xs, H' D = some (.lst xs) ∧ TupsAt H' xs (contents cs ++ (bif b then neigh cs else []) ++ toldByL (cs.take i))) ⟨⟨_, _, rfl⟩, s2, xs2, e2, by rw [List.take_zero, toldByL, List.append_nil]; exact h2⟩ (fun i σ H' _ p => SqT.of (p.2.1 _ _ hk)) (fun i x σ H' hx p => ?_) (fun σ H' p => ?_)
          · obtain ⟨⟨y, z, rfl⟩, s3, xs3, e3, h3⟩ := p
            obtain ⟨t, ht, hv⟩ := hts.get hx
            have htm : t ∈ cs := List.mem_of_getElem? ht
            have dl := Nat.lt_of_le_of_lt (deepL_le htm) (show deepL cs < n by omega)
            refine ⟨.ref D, rfl, .inl ⟨rfl, _, SqL.of e3⟩, _, rfl, x, t, rfl, hv.keep (tups_same s3), dl, Nat.lt_of_le_of_lt (deepL_le htm) (by omega), Nat.le_trans (mem_parts htm) (by omega), fun H4 p4 xs4 s4 n4 e4 h4 => ?_⟩
            have e5 := s4 _ _ e3
            refine ⟨D, p4, _, _, rfl, rfl, e5, e4, ?_, ⟨_, _, rfl⟩, same_put (s3.trans s4) hD _, _, upd_same, ?_⟩
            · have z1 := Paired.length h3
              have z2 := Paired.length h4
              have z3 := toldByL_take (cs := cs) (i + 1)
              rw [take_snoc ht, toldByL_snoc, List.length_append] at z3
              rw [List.length_append, List.length_append] at z1
              exact small' (by omega)
            · rw [take_snoc ht, toldByL_snoc, ← List.append_assoc]
              exact paired_app (h3.keep (tups_put (tups_same s4) e3)) (h4.keep (tups_put (Tups.refl _) e5))
          · obtain ⟨⟨y, z, rfl⟩, s3, xs3, e3, h3⟩ := p
            rw [hlen, List.take_length] at h3
            exact ⟨_, rfl, q H' D xs3 s3 hD e3 (by rw [toldBy]; exact h3)⟩
        · -- neighbours
          subst hb
          refine ⟨_, rfl, a, _, 1, _, rfl, rfl, SqT.of (s1 _ _ ha), atI_nat (j := 1) rfl, k, us, rfl, .inr (SqT.of (s1 _ _ hk)), _, _, rfl, rfl, _, rfl, by omega, by omega, ?_⟩
          refine for_range (lo := 0) (n := ((us.length : Int) - 1).toNat) (fun i σ H' => (∃ y z, σ = [some (.ref a), some (.ref D), y, z]) ∧ Same H H' ∧ ∃ xs, H' D = some (.lst xs) ∧ TupsAt H' xs (contents cs ++ (neigh cs).take i)) ⟨⟨_, _, rfl⟩, s1, xs1, e1, by rw [List.take_zero, List.append_nil]; exact h1⟩ (fun i σ H' hi p => ?_) (fun σ H' p => ?_)
          · obtain ⟨⟨y, z, rfl⟩, s2, xs2, e2, h2⟩ := p
            have i1 : i < us.length := by omega
            have i2 : i + 1 < us.length := by omega
            obtain ⟨t, ht, hv⟩ := hts.get (List.getElem?_eq_getElem i1)
            obtain ⟨u, hu, hw⟩ := hts.get (List.getElem?_eq_getElem i2)
            have htm : t ∈ cs := List.mem_of_getElem? ht
            have hum : u ∈ cs := List.mem_of_getElem? hu
            have a1 : atI us (0 + (i : Int)) = some us[i] := at_of (j := i) (by omega) (List.getElem?_eq_getElem i1)
            have a2 : atI us (0 + (i : Int) + 1) = some us[i + 1] := at_of (j := i + 1) (by omega) (List.getElem?_eq_getElem i2)
            refine ⟨.ref D, rfl, .inl ⟨rfl, _, SqL.of e2⟩, _, rfl, a, _, 1, _, rfl, rfl, SqT.of (s2 _ _ ha), atI_nat (j := 1) rfl, _, rfl, k, us, _, _, rfl, rfl, SqT.of (s2 _ _ hk), a1, _, t, rfl, hv.keep (tups_same s2), Nat.lt_of_le_of_lt (deepL_le htm) (by omega), Nat.le_trans (mem_parts htm) (by omega), fun H3 p3 s3 n3 e3 => ?_⟩
            have s3' := s2.trans s3
            refine ⟨_, rfl, a, _, 1, _, rfl, rfl, SqT.of (s3' _ _ ha), atI_nat (j := 1) rfl, _, rfl, _, _, rfl, rfl, k, us, _, _, rfl, rfl, SqT.of (s3' _ _ hk), a2, _, u, rfl, hw.keep (tups_same s3'), Nat.lt_of_le_of_lt (deepL_le hum) (by omega), Nat.le_trans (mem_parts hum) (by omega), fun H4 p4 s4 n4 e4 => ?_⟩
            have s4' := s3'.trans s4
            have l1 := leaves_parts t
            have l2 := leaves_parts u
            have m1 := mem_parts htm
            have m2 := mem_parts hum
            refine ⟨p3, p4, _, _, rfl, rfl, s4 _ _ e3, e4, by rw [List.length_map, List.length_map]; exact small' (by omega), fun p5 n5 => ?_⟩
            have s5 := same_new n5 (.lst ((leaves t).map V.int ++ (leaves u).map V.int))
            refine ⟨p5, leaves t ++ leaves u, rfl, SqL.of (by rw [upd_same, List.map_append]), fun ns p6 pm so n6 => ?_⟩
            rw [srt_uniq pm so]
            have s6 := same_new n6 (.lst ((srt (leaves t ++ leaves u)).map V.int))
            refine ⟨p6, _, rfl, .inl ⟨SqL.of upd_same, fun p7 n7 => ?_⟩⟩
            have s7 := same_new n7 (.tup ((srt (leaves t ++ leaves u)).map V.int))
            have sA := (s4.trans s5).trans (s6.trans s7)
            have e7 := sA _ _ (s3 _ _ e2)
            refine ⟨D, xs2, _, rfl, rfl, e7, ?_, ⟨_, _, rfl⟩, same_put (s3'.trans sA) hD _, _, upd_same, ?_⟩
            · have z1 := Paired.length h2
              rw [List.length_append, List.length_take, neigh_size] at z1
              have z2 := contents_len cs
              exact small (by omega)
            · rw [take_snoc (neigh_get ht hu), ← List.append_assoc]
              have ne : p7 ≠ D := ne_of (o := .tup ((srt (leaves t ++ leaves u)).map V.int)) upd_same e7 (fun z => nomatch z)
              exact paired_app (h2.keep (tups_put (tups_same (s3.trans sA)) e2)) (.cons ⟨p7, rfl, by rw [upd_ne ne, upd_same]⟩ .nil)
          · obtain ⟨⟨y, z, rfl⟩, s2, xs2, e2, h2⟩ := p
            refine key _ _ ⟨⟨_, _, rfl⟩, s2, xs2, e2, ?_⟩
            have et : (neigh cs).take ((us.length : Int) - 1).toNat = neigh cs := List.take_of_length_le (by rw [neigh_size]; omega)
            rw [et] at h2
            exact h2
        · subst hb
          exact ⟨⟨_, _, rfl⟩, s1, xs1, e1, by rw [cond_false, List.append_nil]; exact h1⟩
/-! told_of, told_sets -/
def spSets : Sp := fun vs H Q _ => ∃ (v : V) (t : Tr) (n : Nat), vs = [v] ∧ TrAt H t v ∧ Ok t ∧ deep t < 6 ∧ parts t ≤ 100 ∧ n ≤ 8 ∧ (leaves t).Perm (rng n) ∧ ∀ H' p xs, Same H H' → H p = none → H' p = some (.lst xs) → TupsAt H' xs (sets t) → Q (.ref p) H'
theorem sc_toldOf : FnScope ["tree", "chosen"] ["tree"] (defScope (top 18)) := ⟨rfl, rfl, rfl, by decide +kernel, rfl, by decide +kernel, by decide +kernel⟩
theorem ok_toldOf (T : Txt w K mg) : FnOk P w K mg base CX0 15 T.toldOf.f T.toldOf.fd ["tree"] spSets := by
  have GtoldBy := ok_toldBy (P := P) (base := base) T 6
  refine T.toldOf.fn.ok sc_toldOf (fun vs H Q E h => ?_) (fun cdv A outer s H vs Q E hr h => ?_)
  · obtain ⟨v, t, n, rfl, _⟩ := h
    rfl
  · obtain ⟨v, t, n, rfl, ht, ok, hd, hp, h8, hl, q⟩ := h
    refine ⟨_, (pss_one (ps_ret (pe_callB (cr_sortKeys rfl hr.units) (by rfl) T.nSorted (by decide +kernel) (pa_cons (pe_dictOf rfl hr.units (pe_call GtoldBy (hr.mono (by omega)) (by rfl) T.toldBy.g T.toldBy.fn.kp T.toldBy.b .nil pass0 (pa_cons (pv 0) pa_nil)) (by decide +kernel) (by decide +kernel) rfl (by decide +kernel) rfl rfl (fun _ => rfl)) pa_nil)))), ?_⟩
    refine ⟨_, rfl, v, t, rfl, ht, hd, hd, hp, fun H1 p1 xs s1 n1 e1 h1 => ?_⟩
    have tl := toldBy_len t
    refine ⟨p1, xs, _, rfl, e1, h1, small (by omega), fun D nD => ?_⟩
    refine ⟨D, dd (toldBy t), rfl, upd_same, fun c hc => told_ne (mem_toldBy.mp (mem_dd.mp hc)) ok, fun ys p hy np => ?_⟩
    have s2 := same_new nD (.dT (tKeys (dd (toldBy t))))
    have s3 := same_new np (.lst ys)
    exact q _ p ys (s1.trans (s2.trans s3)) ((s1.trans s2).free np) upd_same (hy.keep (tups_same s3))
theorem sc_toldSets : FnScope ["tree"] ["tree"] (defScope (top 19)) := ⟨rfl, rfl, rfl, by decide +kernel, rfl, by decide +kernel, by decide +kernel⟩
theorem ok_toldSets (T : Txt w K mg) : FnOk P w K mg base CX0 16 T.toldSets.f T.toldSets.fd ["tree"] spSets := by
  have GtoldOf := ok_toldOf (P := P) (base := base) T
  have GchkTree := ok_chkTree (P := P) (base := base) T
  refine T.toldSets.fn.ok sc_toldSets (fun vs H Q E h => ?_) (fun cdv A outer s H vs Q E hr h => ?_)
  · obtain ⟨v, t, n, rfl, _⟩ := h
    rfl
  · obtain ⟨v, t, n, rfl, ht, ok, hd, hp, h8, hl, q⟩ := h
    refine ⟨_, (pss_cons (ps_expr (pe_call GchkTree (hr.mono (by omega)) (by rfl) T.chkTree.g T.chkTree.fn.kp T.chkTree.b .nil pass0 (pa_cons (pv 0) pa_nil)))
      (pss_one (ps_ret (pe_call GtoldOf (hr.mono (by omega)) (by rfl) T.toldOf.g T.toldOf.fn.kp T.toldOf.b .nil pass0 (pa_cons (pv 0) pa_nil))))), ?_⟩
    refine ⟨_, rfl, v, t, n, rfl, ht, ok, hd, hp, h8, hl, fun H1 s1 => ?_⟩
    exact ⟨_, rfl, v, t, n, rfl, ht.keep (tups_same s1), ok, hd, hp, h8, hl, fun H2 p xs s2 n2 e2 h2 => q H2 p xs (s1.trans s2) (s1.free n2) e2 h2⟩
end
end Kt
/-! ## KtRules2 -/
namespace Kt
open PySem L2 PyProof.Rows
/-! sorted(a tuple of ints), tuple + tuple -/
section
variable {prog : Program} {w : World} {A : Around} {E : Value → Shared → Prop} {s : Shared}
theorem collect_tup {t : Addr} {vs : List Value} {Q : List Value → Shared → Prop} (ht : IsTup s.heap t vs.toArray) (hz : vs.length ≤ sizeLine) (h : ∀ g, (∀ b o, s.heap.get? b = some o → g.get? b = some o) → Q vs { s with heap := g }) : wpAny (model prog w) A (collect (.ref t)) Q E s := by
  obtain ⟨ob, g1, g2, n, g3⟩ := ht
  have old : ∀ b o, s.heap.get? b = some o → (s.heap.push (seqObj "list" #[] 0)).get? b = some o := fun b o e => Heap.get?_push_of_some _ e
  have mine : (s.heap.push (seqObj "list" #[] 0)).get? s.heap.objs.size = some (seqObj "list" #[] 0) := Heap.get?_push_size _ rfl
  unfold collect
  refine wpAny_bind (wpAny_runValue (codeAny_builtin entry_proto_collect' (show wpAny _ _ (do again (.builtin "list.__iadd__" ⟨[← newList [], .ref t], []⟩)) _ _ s from wpAny_bind (wpAny_newList (wpAny_pure ⟨Code.quiet_builtin _ (by decide +kernel), codeAny_builtin entry_list_iadd' ?_⟩)))))
  show wpAny _ _ (Builtin.List.listExtendWith (.ref s.heap.objs.size) (.ref t) (.ref s.heap.objs.size)) _ _ { s with heap := s.heap.push (seqObj "list" #[] 0) }
  unfold Builtin.List.listExtendWith
  refine wpAny_bind (wpAny_typeOf (T := "tuple") ⟨ob, old _ _ g1, g2⟩ ?_)
  have yes : (Value.type "tuple" == Value.type "tuple") = true := beq_self_eq_true _
  rw [if_pos (by rw [yes, Bool.or_true])]
  refine wpAny_bind (listItems_at (old _ _ g1) g3 (wpAny_bind (listItems_at mine rfl ?_)))
  rw [if_neg (by simp)]
  have fits : (#[] ++ vs.toArray : Array Value).size ≤ sizeLine + 1 := by
    rw [Array.size_append, List.size_toArray]
    show 0 + vs.length ≤ _
    omega
  refine wpAny_bind (listUpdate_at mine rfl (wpAny_pure ?_) (Nat.zero_le _) fits)
  refine wpAny_bind (wpAny_load (get?_update_seq mine _) ?_)
  have e : ((#[] : Array Value) ++ vs.toArray).toList = vs := by simp
  show wpAny _ _ (pure ((#[] : Array Value) ++ vs.toArray).toList) Q E _
  rw [e]
  refine wpAny_pure (h _ fun b o q => ?_)
  rw [Heap.get?_update_ne _ _ _ _ (Nat.ne_of_lt (Heap.lt_size q))]
  exact old b o q
end
section
variable {X : Cx}
def rSortTI (K : PySem.W.Frag) : List V → Hp → VK → Prop := fun vs H Q => ∃ (a : Addr) (ns : List Int), vs = [V.ref a] ∧ SqT K H a (ns.map V.int) ∧ ∀ p, H p = none → Q (.ref p) (upd H p (.lst ((srt ns).map V.int)))
theorem each_ints : ∀ {ns : List Int} {us : List Value}, Vals (ns.map V.int) us → PySem.W.EachIs (fun u (i : Int) => ∃ t, u = Value.int i t) us ns
  | [], _, r => by cases r; exact .nil
  | x :: ns, _, r => by
    cases r with
    | cons r1 r2 => exact .cons r1 (each_ints r2)
theorem ints_each : ∀ {ns : List Int} {us : List Value}, PySem.W.EachIs (fun u (i : Int) => ∃ t, u = Value.int i t) us ns → Vals (ns.map V.int) us
  | _, _, .nil => .nil
  | _, _, .cons h t => .cons h (ints_each t)
theorem cr_sortTI (hu : X.A.units + 64 < cLine) : CallR X (.builtin "sorted") (rSortTI X.K) := by
  intro pins s σ H vs us Q I r h
  obtain ⟨a, ns, rfl, hs, q⟩ := h
  rw [Vals.ref1 r]
  obtain ⟨its, rv, ht, hz⟩ := I.tuple hs
  have hil : its.length ≤ sizeLine := by rw [← rv.length]; exact hz
  refine Calls.call_function_entry kind_sorted plain_sorted entry_sorted (args_sorted1 _) ?_
  unfold Builtin.«sorted»
  refine wpAny_bind (m := checkCount "sorted" 1 1 _) (wpAny_pure (wpAny_bind (collect_tup ht hil fun g kp => ?_)))
  have I1 : Inv X pins σ H { s with heap := g } := I.kept (t' := s.toks) kp
  refine wpAny_bind (wpAny_newList ?_ hil)
  have mine : (g.push (seqObj "list" its.toArray 0)).get? g.objs.size = some (seqObj "list" its.toArray 0) := Heap.get?_push_size _ rfl
  show wpAny _ _ _ _ _ { s with heap := g.push (seqObj "list" its.toArray 0) }
  have ei := each_ints rv
  refine wpAny_bind (wpAny_holding (PySem.W.list_sort_data (s := { s with heap := g.push (seqObj "list" its.toArray 0) }) (R := fun u (i : Int) => ∃ t, u = Value.int i t) (enc := fun i => PyData.int i) mine ei (ei.mono fun u i ⟨t, e⟩ => ⟨[], by rw [e]; exact .int i t, by simp⟩) (PySem.W.AllAlike.of fun _ _ => by simp [PySem.W.alike]) (PySem.W.Sortable.others fun _ => ⟨(fun z => nomatch z), fun _ z => nomatch z⟩)
    (by rw [← List.length_map (f := V.int), rv.length]; exact hil) (fun i _ => by show X.A.units + 1 + 1 + 0 < cLine; omega) fun out hlo eo => ?_))
  rw [PySem.W.dataLe_int (fun b : Int => b)] at eo
  have hv := ints_each eo
  obtain ⟨e', he'⟩ := sortedHeap_at (vs := its) (out := out.toArray) mine
  have hlen : ((srt ns).map V.int).length ≤ sizeLine := by rw [hv.length, hlo, ← List.length_map (f := V.int), rv.length]; exact hil
  refine wpAny_pure ⟨_, rfl, .ref g.objs.size, upd H g.objs.size (.lst ((srt ns).map V.int)), I1.laid (t' := s.toks) (fun b u e => ?_) (Nat.le_refl _) ⟨hlen, out, e', hv, he'⟩, rfl, q _ (I1.hok.fresh (Nat.le_refl _))⟩
  have hlt : b < g.objs.size := Heap.lt_size e
  rw [sortedHeap_old (Nat.ne_of_lt hlt) (by rw [Heap.size_push]; exact Nat.lt_succ_of_lt hlt)]
  exact Heap.get?_push_of_some _ e
/-- t + u: some tuple of these items -/
def rCatC (K : PySem.W.Frag) : R2 := fun x y H Q => ∃ a b xs ys, x = .ref a ∧ y = .ref b ∧ H a = some (.tup xs) ∧ H b = some (.tup ys) ∧ xs.length + ys.length ≤ sizeLine ∧ ∀ d H', Same H H' → H' d = some (.tup (xs ++ ys)) → Q (.ref d) H'
theorem op_catC : OpR X (binaryOp .Add) (rCatC X.K) := by
  intro pins s σ H x y v u Q I rx ry h
  obtain ⟨a, b, xs, ys, rfl, rfl, ha, hb, hz, q⟩ := h
  refine op_catA pins s σ H _ _ v u Q I rx ry ⟨a, b, xs, ys, rfl, rfl, SqT.of ha, SqT.of hb, hz, fun e => q b H (Same.refl H) ?_, fun _ e => q a H (Same.refl H) ?_, fun _ _ p np => q p _ (same_new np _) upd_same⟩
  · rw [e]; exact hb
  · rw [e, List.append_nil]; exact ha
end
end Kt
/-! ## KtL1 -/
namespace Kt
open PySem L2 PyProof.Rows
/-! the stream: a list that changes -/
def Bt (st : Addr) (H H' : Hp) : Prop := ∀ b o, b ≠ st → H b = some o → H' b = some o
theorem Bt.refl (st : Addr) (H : Hp) : Bt st H H := fun _ _ _ h => h
theorem Bt.trans {st : Addr} {H H1 H2 : Hp} (a : Bt st H H1) (b : Bt st H1 H2) : Bt st H H2 := fun c o n h => b c o n (a c o n h)
theorem bt_same {st : Addr} {H H' : Hp} (s : Same H H') : Bt st H H' := fun b o _ h => s b o h
theorem bt_put {st p : Addr} {H H' : Hp} (s : Bt st H H') (h : H p = none) (o : HO) : Bt st H (upd H' p o) := fun b u n q => by
  rw [upd_ne (ne_of_none q h)]
  exact s b u n q
theorem bt_st {st : Addr} {H H' : Hp} (s : Bt st H H') (o : HO) : Bt st H (upd H' st o) := fun b u n q => by
  rw [upd_ne n]
  exact s b u n q
/-- the script's copy at sc too -/
def StrOf (H : Hp) (st sc : Addr) : Prop := ∃ (ns : List Int) (cell k : Int), sc ≠ st ∧ H st = some (.lst [.ref sc, .int cell, .int k]) ∧ H sc = some (.lst (ns.map V.int)) ∧ 0 ≤ cell ∧ 0 ≤ k
theorem StrOf.same {H H' : Hp} {st sc : Addr} (h : StrOf H st sc) (s : Same H H') : StrOf H' st sc := by
  obtain ⟨ns, cell, k, n, h1, h2, r⟩ := h
  exact ⟨ns, cell, k, n, s _ _ h1, s _ _ h2, r⟩
theorem StrOf.put {H : Hp} {st sc p : Addr} {o : HO} (h : StrOf H st sc) (hp : p ≠ st) (hc : p ≠ sc) : StrOf (upd H p o) st sc := by
  obtain ⟨ns, cell, k, n, h1, h2, r⟩ := h
  exact ⟨ns, cell, k, n, by rw [upd_ne hp.symm]; exact h1, by rw [upd_ne hc.symm]; exact h2, r⟩
theorem StrOf.lst1 {H : Hp} {st sc : Addr} (h : StrOf H st sc) : ∃ xs, H st = some (.lst xs) := by
  obtain ⟨ns, cell, k, n, h1, h2, r⟩ := h
  exact ⟨_, h1⟩
theorem StrOf.copy {H : Hp} {st sc : Addr} (h : StrOf H st sc) : ∃ xs, H sc = some (.lst xs) := by
  obtain ⟨ns, cell, k, n, h1, h2, r⟩ := h
  exact ⟨_, h2⟩
theorem StrOf.ne {H : Hp} {st sc p : Addr} (h : StrOf H st sc) (hp : H p = none) : p ≠ st ∧ p ≠ sc := by
  obtain ⟨xs, h1⟩ := h.lst1
  obtain ⟨ys, h2⟩ := h.copy
  exact ⟨(ne_of_none h1 hp).symm, (ne_of_none h2 hp).symm⟩
theorem bt_free {st sc l : Addr} {H H' : Hp} (s : Bt st H H') (h : StrOf H' st sc) (hl : H' l = none) : H l = none := by
  cases q : H l with
  | none => rfl
  | some o =>
    have := s l o (h.ne hl).1 q
    rw [hl] at this
    cases this
theorem bt_tups {st sc : Addr} {H H' : Hp} (s : Bt st H H') (h : StrOf H st sc) : Tups H H' := fun b xs e => by
  obtain ⟨ys, h1⟩ := h.lst1
  exact s b _ (ne_of e h1 (fun z => nomatch z)) e
section
variable {P : Program} {w : World} {K : PySem.W.Frag} {mg : Str → Option Value} {base : Heap}
/-! _law_stream -/
def spStream (K : PySem.W.Frag) : Sp := fun vs H Q _ => ∃ (a : Addr) (ns : List Int), vs = [.ref a] ∧ SqL K H a (ns.map V.int) ∧ ∀ H' p sc, Same H H' → StrOf H' p sc → Q (.ref p) H'
theorem sc_stream : FnScope ["_law_script"] ["_law_script"] (defScope (top 21)) := ⟨rfl, rfl, rfl, by decide +kernel, rfl, by decide +kernel, by decide +kernel⟩
theorem ok_stream (T : Txt w K mg) : FnOk P w K mg base CX0 1 T.stream.f T.stream.fd ["_law_script"] (spStream K) := by
  refine T.stream.fn.ok sc_stream (fun vs H Q E h => ?_) (fun cdv A outer s H vs Q E hr h => ?_)
  · obtain ⟨a, ns, rfl, _⟩ := h
    rfl
  · obtain ⟨a, ns, rfl, hS, q⟩ := h
    refine ⟨_, (pss_one (ps_ret (pe_lst (pa_cons (pe_callTy call_list_of (by rfl) T.nList (by decide +kernel) (pa_cons (pv 0) pa_nil)) (pa_cons pe_int (pa_cons pe_int pa_nil)))))), ?_⟩
    refine ⟨_, rfl, a, _, rfl, .inl hS, fun sc nsc => ⟨by show 3 ≤ sizeLine; decide, fun p np => ?_⟩⟩
    have s1 := same_new nsc (.lst (ns.map V.int))
    have s2 := same_new np (.lst [.ref sc, .int 0, .int 0])
    exact q _ p sc (s1.trans s2) ⟨ns, 0, 0, ne_of_none upd_same np, upd_same, s2 _ _ upd_same, Int.le_refl 0, Int.le_refl 0⟩
/-! _law_next -/
def spNext : Sp := fun vs H Q _ => ∃ (st sc : Addr) (many : Int), vs = [.ref st, .int many] ∧ StrOf H st sc ∧ 1 ≤ many ∧ many ≤ 1000 ∧ ∀ H' d, Bt st H H' → StrOf H' st sc → 0 ≤ d → d < many → Q (.int d) H'
theorem sc_next : FnScope ["_law_stream_here", "_law_many", "_law_k", "_law_cell", "_law_digit"] ["_law_stream_here", "_law_many"] (defScope (top 22)) := ⟨rfl, rfl, rfl, by decide +kernel, rfl, by decide +kernel, by decide +kernel⟩
theorem ok_next (T : Txt w K mg) : FnOk P w K mg base CX0 1 T.next.f T.next.fd ["_law_stream_here", "_law_many"] spNext := by
  refine T.next.fn.ok sc_next (fun vs H Q E h => ?_) (fun cdv A outer s H vs Q E hr h => ?_)
  · obtain ⟨st, sc, many, rfl, _⟩ := h
    rfl
  · obtain ⟨st, sc, many, rfl, ⟨ns, cell, k, nsc, h1, h2, c0, k0⟩, m1, m2, q⟩ := h
    refine ⟨_, (pss_cons (ps_if (pt_cmpR op_eq (pe_ix (r := rIxL K) ix_list (pv 0) pe_int (fun _ _ => rfl)) pe_int (nomark _))
      (pss_cons (ps_set (i := 2) sc_next.nd rfl (Or.inl rfl) (pe_ix (r := rIxL K) ix_list (pv 0) pe_int (fun _ _ => rfl)))
      (pss_cons (ps_set (i := 3) sc_next.nd rfl (Or.inl rfl) (pe_op op_add pe_int (pv 2)))
      (pss_cons (ps_if (pt_cmpR op_lt (pv 2) (pe_callB call_len_seq (by rfl) T.nLen (by decide +kernel) (pa_cons (pe_ix (r := rIxL K) ix_list (pv 0) pe_int (fun _ _ => rfl)) pa_nil)) (nomark _))
      (pss_one (ps_set (i := 3) sc_next.nd rfl (Or.inl rfl) (pe_callB call_abs (by rfl) T.nAbs (by decide +kernel) (pa_cons (pe_ix (r := rIxL K) ix_list (pe_ix (r := rIxL K) ix_list (pv 0) pe_int (fun _ _ => rfl)) (pv 2) (fun _ _ => rfl)) pa_nil))))
      pss_nil)
      (pss_cons (ps_if (pt_cmpR op_lt (pv 3) (pe_op op_pow pe_int pe_int) (nomark _))
      (pss_cons (ps_set (i := 3) sc_next.nd rfl (Or.inl rfl) (pe_op op_modN (pe_callTy call_int1 (by rfl) T.nInt (by decide +kernel) (pa_cons (pe_op op_add (pe_op op_add (pe_op op_mul (pv 3) pe_int) (pe_op op_mul (pv 2) pe_int)) pe_int) pa_nil)) pe_int))
      (pss_one (ps_set (i := 3) sc_next.nd rfl (Or.inl rfl) (pe_op op_add (pe_op op_mul (pe_op op_modN (pe_callTy call_int1 (by rfl) T.nInt (by decide +kernel) (pa_cons (pe_op op_add (pe_op op_mul (pv 3) pe_int) pe_int) pa_nil)) pe_int) pe_int) (pv 3)))))
      pss_nil)
      (pss_cons (ps_asg (pv 3) (pg_sub (pv 0) pe_int set_list))
      (pss_one (ps_asg (pe_op op_add (pv 2) pe_int) (pg_sub (pv 0) pe_int set_list))))))))
      pss_nil)
      (pss_cons (ps_set (i := 4) sc_next.nd rfl (Or.inl rfl) (pe_op op_modN (pe_callTy call_int1 (by rfl) T.nInt (by decide +kernel) (pa_cons (pe_ix (r := rIxL K) ix_list (pv 0) pe_int (fun _ _ => rfl)) pa_nil)) (pv 1)))
      (pss_cons (ps_asg (pe_op op_fdivN (pe_ix (r := rIxL K) ix_list (pv 0) pe_int (fun _ _ => rfl)) (pv 1)) (pg_sub (pv 0) pe_int set_list))
      (pss_one (ps_ret (pv 4)))))), ?_⟩
    refine ⟨_, rfl, st, _, 1, _, rfl, rfl, SqL.of h1, atI_nat (j := 1) rfl, rfl, _, rfl, ?_⟩
    refine ite_key (fun σ H' => (∃ y z u, σ = [some (.ref st), some (.int many), y, z, u]) ∧ Bt st H H' ∧ StrOf H' st sc) (fun σ H' p => ?_) (fun _ key => ?_) (fun _ => ⟨⟨_, _, _, rfl⟩, Bt.refl _ _, ⟨ns, cell, k, nsc, h1, h2, c0, k0⟩⟩)
    · obtain ⟨⟨y, z, u, rfl⟩, b1, ⟨ns', cell', k', nsc', g1, g2, c1, k1⟩⟩ := p
      refine ⟨_, rfl, st, _, 1, _, rfl, rfl, SqL.of g1, atI_nat (j := 1) rfl, .inl ⟨_, rfl, _, rfl, _, _, rfl, rfl, by omega, ?_⟩⟩
      refine ⟨_, rfl, st, _, 1, _, rfl, rfl, SqL.of g1, atI_nat (j := 1) rfl, _, rfl, _, _, rfl, rfl, ⟨by omega, by omega⟩, _, rfl, st, _, 1, 1, rfl, rfl, g1, rfl, ?_⟩
      have e0 : 0 ≤ cell'.fdiv many := Int.fdiv_nonneg c1 (by omega)
      refine ⟨_, rfl, q _ _ (bt_st b1 _) ⟨ns', _, k', nsc', upd_same, by rw [upd_ne nsc']; exact g2, e0, k1⟩ ?_ ?_⟩
      · rw [Int.fmod_eq_emod_of_nonneg _ (by omega)]
        exact Int.emod_nonneg _ (by omega)
      · rw [Int.fmod_eq_emod_of_nonneg _ (by omega)]
        exact Int.emod_lt_of_pos _ (by omega)
    · refine ⟨_, rfl, st, _, 2, _, rfl, rfl, SqL.of h1, atI_nat (j := 2) rfl, ?_⟩
      refine ⟨_, rfl, _, _, rfl, rfl, ?_⟩
      refine ⟨_, rfl, _, rfl, st, _, 0, _, rfl, rfl, SqL.of h1, atI_nat (j := 0) rfl, sc, _, rfl, .inl (SqL.of h2), _, _, rfl, rfl, _, rfl, ?_⟩
      refine ite_key (fun σ H' => (∃ c u, 0 ≤ c ∧ σ = [some (.ref st), some (.int many), some (.int k), some (.int c), u]) ∧ H' = H) (fun σ H' p => ?_) (fun hk key2 => ?_) (fun _ => ⟨⟨7 + k, _, by omega, rfl⟩, rfl⟩)
      · obtain ⟨⟨c, u, hc, rfl⟩, rfl⟩ := p
        refine ⟨_, rfl, _, _, rfl, rfl, ⟨by decide, by decide, by decide⟩, _, _, rfl, rfl, _, rfl, ?_⟩
        refine ite_key (fun σ H2 => (∃ c u, 0 ≤ c ∧ σ = [some (.ref st), some (.int many), some (.int k), some (.int c), u]) ∧ H2 = H') (fun σ H2 p => ?_) (fun _ key3 => ?_) (fun _ => ⟨⟨c, u, hc, rfl⟩, rfl⟩)
        · obtain ⟨⟨c2, u2, hc2, rfl⟩, rfl⟩ := p
          refine ⟨_, rfl, _, rfl, st, _, 1, 1, rfl, rfl, h1, rfl, ?_⟩
          refine ⟨_, rfl, _, _, rfl, rfl, _, rfl, st, _, 2, 2, rfl, rfl, upd_same, rfl, ?_⟩
          refine key _ _ ⟨⟨_, _, _, rfl⟩, bt_st (bt_st (Bt.refl _ _) _) _, ⟨ns, c2, k + 1, nsc, ?_, ?_, hc2, by omega⟩⟩
          · rw [upd_same]
            rfl
          · rw [upd_ne nsc, upd_ne nsc]
            exact h2
        · refine ⟨_, rfl, _, _, rfl, rfl, .inr ⟨by decide, by decide⟩, _, rfl, _, _, rfl, rfl, .inr ⟨by decide, by decide⟩, _, _, rfl, rfl, _, _, rfl, rfl, .inl ⟨_, rfl, _, _, rfl, rfl, (by show (2147483647 : Int) ≠ 0; decide), ?_⟩⟩
          have e1 : 0 ≤ (c * 48271 + k * 69621 + 11).fmod 2147483647 := by
            rw [Int.fmod_eq_emod_of_nonneg _ (by decide)]
            exact Int.emod_nonneg _ (by decide)
          refine ⟨_, rfl, _, _, rfl, rfl, .inr ⟨by decide, by decide⟩, _, _, rfl, rfl, .inl ⟨_, rfl, _, _, rfl, rfl, (by show (2147483647 : Int) ≠ 0; decide), _, _, rfl, rfl, .inr ⟨by decide, by decide⟩, _, rfl, _, _, rfl, rfl, ?_⟩⟩
          have e2 : 0 ≤ ((c * 48271 + k * 69621 + 11).fmod 2147483647 * 16807 + 13).fmod 2147483647 := by
            rw [Int.fmod_eq_emod_of_nonneg _ (by decide)]
            exact Int.emod_nonneg _ (by decide)
          exact key3 _ _ ⟨⟨_, _, by omega, rfl⟩, rfl⟩
      · have hk' : k < ((ns.map V.int).length : Int) := of_decide_eq_true hk
        rw [List.length_map] at hk'
        have hn : k.toNat < ns.length := by omega
        have ha : atI (ns.map V.int) k = some (.int ns[k.toNat]) := at_of (j := k.toNat) (by omega) (by rw [List.getElem?_map, List.getElem?_eq_getElem hn]; rfl)
        refine ⟨_, rfl, st, _, 0, _, rfl, rfl, SqL.of h1, atI_nat (j := 0) rfl, _, rfl, sc, _, _, _, rfl, rfl, SqL.of h2, ha, _, rfl, ?_⟩
        exact key2 _ _ ⟨⟨_, _, by split <;> omega, rfl⟩, rfl⟩
end
end Kt
/-! ## KtL2 -/
namespace Kt
open PySem L2 PyProof.Rows
theorem ixN_of {n : Nat} {d : Int} (h0 : 0 ≤ d) (h1 : d < (n : Int)) : ixN n d = some d.toNat := by
  unfold ixN
  rw [if_pos h0, if_pos h1]
theorem cut_take (xs : List V) (n : Int) (h0 : 0 ≤ n) (h : n ≤ (xs.length : Int)) : cutV xs none (some n) = xs.take n.toNat := by
  have e : n = ((n.toNat : Nat) : Int) := by omega
  unfold cutV
  rw [e, HT.sIx_nat, HT.sIx_none, Nat.sub_zero, List.drop_zero, Nat.min_eq_left (by omega), Int.toNat_natCast]
theorem cut_dropI (xs : List V) (n : Int) (h0 : 0 ≤ n) (h : n ≤ (xs.length : Int)) : cutV xs (some n) none = xs.drop n.toNat := by
  have e : n = ((n.toNat : Nat) : Int) := by omega
  rw [e, cut_drop xs n.toNat (by omega), Int.toNat_natCast]
theorem erase_perm : ∀ {l : List Int} {k : Nat} (h : k < l.length), (l[k] :: l.eraseIdx k).Perm l
  | [], _, h => absurd h (Nat.not_lt_zero _)
  | x :: l, 0, _ => List.Perm.refl _
  | x :: l, k + 1, h => (List.Perm.swap x (l[k]'(Nat.lt_of_succ_lt_succ h)) (l.eraseIdx k)).trans ((erase_perm (l := l) (k := k) (Nat.lt_of_succ_lt_succ h)).cons x)
theorem map_erase {α β : Type} (f : α → β) : ∀ (l : List α) (k : Nat), (l.map f).eraseIdx k = (l.eraseIdx k).map f
  | [], _ => by simp
  | x :: l, 0 => by simp
  | x :: l, k + 1 => by simp [map_erase f l k]
section
variable {P : Program} {w : World} {K : PySem.W.Frag} {mg : Str → Option Value} {base : Heap}
/-! _law_shuffled -/
def spShuf : Sp := fun vs H Q _ => ∃ (st sc it : Addr) (items : List Int), vs = [.ref st, .ref it] ∧ StrOf H st sc ∧ H it = some (.lst (items.map V.int)) ∧ items.length ≤ 100 ∧ ∀ H' p (ns : List Int), Bt st H H' → StrOf H' st sc → H p = none → H' p = some (.lst (ns.map V.int)) → ns.Perm items → Q (.ref p) H'
theorem sc_shuffled : FnScope ["_law_stream_here", "_law_items", "_law_left", "_law_found", "_law_k"] ["_law_stream_here", "_law_items"] (defScope (top 23)) := ⟨rfl, rfl, rfl, by decide +kernel, rfl, by decide +kernel, by decide +kernel⟩
theorem ok_shuffled (T : Txt w K mg) : FnOk P w K mg base CX0 2 T.shuffled.f T.shuffled.fd ["_law_stream_here", "_law_items"] spShuf := by
  have Gnext := ok_next (P := P) (base := base) T
  refine T.shuffled.fn.ok sc_shuffled (fun vs H Q E h => ?_) (fun cdv A outer s H vs Q E hr h => ?_)
  · obtain ⟨st, sc, it, items, rfl, _⟩ := h
    rfl
  · obtain ⟨st, sc, it, items, rfl, hst, hit, h100, q⟩ := h
    refine ⟨_, (pss_cons (ps_set (i := 2) sc_shuffled.nd rfl (Or.inl rfl) (pe_callTy call_list_of (by rfl) T.nList (by decide +kernel) (pa_cons (pv 1) pa_nil)))
      (pss_cons (ps_set (i := 3) sc_shuffled.nd rfl (Or.inl rfl) (pe_lst pa_nil))
      (pss_cons (ps_for PassesOwn.never rfl (pi_range1 (by rfl) T.nRange (pa_cons (pe_callB call_len_seq (by rfl) T.nLen (by decide +kernel) (pa_cons (pv 1) pa_nil)) pa_nil)) (pg_name (i := 4) sc_shuffled.nd rfl (Or.inl rfl))
      (pss_one (ps_expr (pe_bm PySem.F.plainAttrs_list PySem.F.slot_list_append PySem.F.type_list_append mt_append (pv 3) (pa_cons (pe_bm PySem.F.plainAttrs_list PySem.F.slot_list_pop PySem.F.type_list_pop mt_popAt (pv 2) (pa_cons (pe_call Gnext (hr.mono (by omega)) (by rfl) T.next.g T.next.fn.kp T.next.b .nil pass0 (pa_cons (pv 0) (pa_cons (pe_callB call_len_seq (by rfl) T.nLen (by decide +kernel) (pa_cons (pv 2) pa_nil)) pa_nil))) pa_nil)) pa_nil)))))
      (pss_one (ps_ret (pv 3)))))), ?_⟩
    have hl : (items.map V.int).length = items.length := List.length_map _
    refine ⟨_, rfl, it, _, rfl, .inl (SqL.of hit), fun L nL => ⟨Nat.zero_le _, fun F nF => ?_⟩⟩
    have s1 := same_new nL (.lst (items.map V.int))
    have s2 := same_new nF (.lst [])
    have s12 := s1.trans s2
    have hst2 := hst.same s12
    have LF : L ≠ F := ne_of_none upd_same nF
    have nF0 : H F = none := s1.free nF
    refine ⟨_, rfl, it, _, rfl, .inl (SqL.of (s12 _ _ hit)), _, rfl, by rw [hl]; omega, by rw [hl]; omega, ?_⟩
    rw [Int.toNat_natCast, hl]
    refine for_range (lo := 0) (n := items.length) (fun i σ H' => (∃ y, σ = [some (.ref st), some (.ref it), some (.ref L), some (.ref F), y]) ∧ Bt st H H' ∧ StrOf H' st sc ∧ ∃ ls fs : List Int, H' L = some (.lst (ls.map V.int)) ∧ H' F = some (.lst (fs.map V.int)) ∧ (fs ++ ls).Perm items ∧ ls.length + i = items.length)
      ⟨⟨_, rfl⟩, bt_same s12, hst2, items, [], s2 _ _ upd_same, upd_same, List.Perm.refl _, by omega⟩ (fun i σ H' hi p => ?_) (fun σ H' p => ?_)
    · obtain ⟨⟨y, rfl⟩, b1, hs1, ls, fs, e1, e2, pm, hlen⟩ := p
      have nL2 := hst.ne nL
      have nF2 := hst.ne nF0
      refine ⟨.ref F, rfl, .inl ⟨rfl, _, SqL.of e2⟩, .ref L, rfl, .inl ⟨rfl, _, SqL.of e1⟩, _, rfl, _, rfl, L, _, rfl, .inl (SqL.of e1), st, sc, _, rfl, hs1, ?_, ?_, fun H4 d b4 hs4 d0 d1 => ?_⟩
      · rw [List.length_map]; omega
      · rw [List.length_map]; omega
      rw [List.length_map] at d1
      have e4 := b4 _ _ nL2.1 e1
      have e5 := b4 _ _ nF2.1 e2
      have hd : d.toNat < ls.length := by omega
      refine ⟨L, _, d, d.toNat, .int ls[d.toNat], rfl, rfl, e4, by omega, by omega, ?_, ?_, ?_⟩
      · rw [List.length_map]
        exact (ixN_seq (ixN_of d0 d1)).1
      · rw [List.getElem?_map, List.getElem?_eq_getElem hd]
        rfl
      rw [map_erase]
      have pe := erase_perm hd
      refine ⟨F, _, _, rfl, rfl, by rw [upd_ne LF.symm]; exact e5, ?_, ⟨_, rfl⟩, bt_put (bt_put (b1.trans b4) nL _) nF0 _, (hs4.put nL2.1 nL2.2).put nF2.1 nF2.2, ls.eraseIdx d.toNat, fs ++ [ls[d.toNat]], ?_, ?_, ?_, ?_⟩
      · have := pm.length_eq
        rw [List.length_append] at this
        rw [List.length_map]
        exact small (by omega)
      · rw [upd_ne LF, upd_same]
      · rw [upd_same, List.map_append]
        rfl
      · refine List.Perm.trans ?_ pm
        rw [List.append_assoc]
        exact List.Perm.append_left fs pe
      · have := pe.length_eq
        rw [List.length_cons] at this
        omega
    · obtain ⟨⟨y, rfl⟩, b1, hs1, ls, fs, e1, e2, pm, hlen⟩ := p
      have e0 : ls = [] := List.eq_nil_of_length_eq_zero (by omega)
      subst e0
      rw [List.append_nil] at pm
      exact ⟨_, rfl, q H' F fs b1 hs1 nF0 e2 pm⟩
/-! _law_chunks -/
def spChunks : Sp := fun vs H Q _ => ∃ (st sc it : Addr) (items : List Int) (many : Int), vs = [.ref st, .ref it, .int many] ∧ StrOf H st sc ∧ H it = some (.lst (items.map V.int)) ∧ it ≠ st ∧ 1 ≤ many ∧ many ≤ (items.length : Int) ∧ items.length ≤ 100 ∧
  ∀ H' p (as : List Addr) (css : List (List Int)), Bt st H H' → StrOf H' st sc → H p = none → H' p = some (.lst (as.map V.ref)) → (∀ a ∈ as, H a = none) → as.length = css.length → (∀ (i : Nat) a c, as[i]? = some a → css[i]? = some c → H' a = some (.lst (c.map V.int))) → (css.length : Int) = many → css.flatten.Perm items → (∀ c ∈ css, c ≠ []) → Q (.ref p) H'
theorem flatten_set : ∀ {css : List (List Int)} {i : Nat} {c : List Int} {x : Int}, css[i]? = some c → (css.set i (c ++ [x])).flatten.Perm (css.flatten ++ [x])
  | [], i, c, x, h => by simp at h
  | d :: css, 0, c, x, h => by
    simp at h
    subst h
    rw [List.set_cons_zero, List.flatten_cons, List.flatten_cons, List.append_assoc, List.append_assoc]
    exact List.Perm.append_left d List.perm_append_comm
  | d :: css, i + 1, c, x, h => by
    rw [List.set_cons_succ, List.flatten_cons, List.flatten_cons, List.append_assoc]
    exact List.Perm.append_left d (flatten_set (by simpa using h))
theorem flatten_one : ∀ l : List Int, (l.map fun x => [x]).flatten = l
  | [] => rfl
  | x :: l => by rw [List.map_cons, List.flatten_cons, flatten_one l]; rfl
theorem sc_chunks : FnScope ["_law_stream_here", "_law_items", "_law_many", "_law_found", "_law_item"] ["_law_stream_here", "_law_items", "_law_many"] (defScope (top 24)) := ⟨rfl, rfl, rfl, by decide +kernel, rfl, by decide +kernel, by decide +kernel⟩
theorem ok_chunks (T : Txt w K mg) : FnOk P w K mg base CX0 2 T.chunks.f T.chunks.fd ["_law_stream_here", "_law_items", "_law_many"] spChunks := by
  have Gnext := ok_next (P := P) (base := base) T
  refine T.chunks.fn.ok sc_chunks (fun vs H Q E h => ?_) (fun cdv A outer s H vs Q E hr h => ?_)
  · obtain ⟨st, sc, it, items, many, rfl, _⟩ := h
    rfl
  · obtain ⟨st, sc, it, items, many, rfl, hst, hit, hne, m1, m2, h100, q⟩ := h
    refine ⟨_, (pss_cons (ps_setLc (i := 3) (own := [("_law_item", 4)]) (g := gName 4) (tt := tYes) rfl sc_chunks.nd rfl rfl (sw_true rfl rfl rfl (by decide +kernel)) (pi_list (pe_slice sl_list (pv 1) po_none (po_some (pv 2)))) (blkOk_by (own := [("_law_item", 4)]) (N := ["_law_stream_here", "_law_items", "_law_many", "_law_found", "_law_item"]) (sc := defScope (top 24)) (by decide +kernel)) (fun _ _ _ _ _ => pg_name (i := 4) sc_chunks.nd rfl (Or.inl rfl)) (fun _ _ _ _ _ => pts_nil) (fun _ _ _ _ _ => (pe_lst (pa_cons (pv 4) pa_nil))))
      (pss_cons (ps_for PassesOwn.never rfl (pi_list (pe_slice sl_list (pv 1) (po_some (pv 2)) po_none)) (pg_name (i := 4) sc_chunks.nd rfl (Or.inl rfl))
      (pss_one (ps_expr (pe_bm PySem.F.plainAttrs_list PySem.F.slot_list_append PySem.F.type_list_append mt_append (pe_ix (r := rIxL K) ix_list (pv 3) (pe_call Gnext (hr.mono (by omega)) (by rfl) T.next.g T.next.fn.kp T.next.b .nil pass0 (pa_cons (pv 0) (pa_cons (pv 2) pa_nil))) (fun _ _ => rfl)) (pa_cons (pv 4) pa_nil)))))
      (pss_one (ps_ret (pv 3))))), ?_⟩
    have hl : (items.map V.int).length = items.length := List.length_map _
    have mN : many.toNat ≤ items.length := by omega
    refine ⟨_, rfl, _, rfl, many, rfl, it, _, rfl, SqL.of hit, fun p1 n1 => ⟨p1, rfl, ⟨_, SqL.of upd_same⟩, fun D nD => ?_⟩⟩
    rw [cut_take _ _ (by omega) (by rw [hl]; exact m2), ← List.map_take] at nD ⊢
    have s1 := same_new n1 (.lst ((items.take many.toNat).map V.int))
    have s2 := same_new nD (.lst [])
    have nD0 : H D = none := s1.free nD
    refine lc_list (K := K) (xs := (items.take many.toNat).map V.int) (fun i H' => Same H H' ∧ H' p1 = some (.lst ((items.take many.toNat).map V.int)) ∧ ∃ as : List Addr, H' D = some (.lst (as.map V.ref)) ∧ as.Nodup ∧ as.length = i ∧ (∀ a ∈ as, H a = none ∧ a ≠ D) ∧ ∀ (j : Nat) a x, as[j]? = some a → items[j]? = some x → H' a = some (.lst [.int x]))
      ⟨s1.trans s2, s2 _ _ upd_same, [], upd_same, List.nodup_nil, rfl, by simp, by simp⟩ (fun i H' _ p => SqL.of p.2.1) (fun i x H' hx p => ?_) (fun H1 p => ?_)
    · obtain ⟨s3, e3, as, eD, nd, la, fr, ea⟩ := p
      rw [List.getElem?_map] at hx
      obtain ⟨y, hy, rfl⟩ := Option.map_eq_some_iff.mp hx
      have hi : i < (items.take many.toNat).length := (List.getElem?_eq_some_iff.mp hy).1
      have hy' : items[i]? = some y := by
        rw [List.getElem?_take] at hy
        split at hy
        · exact hy
        · cases hy
      rw [List.length_take] at hi
      refine ⟨rfl, yes ?_⟩
      refine ⟨_, rfl, (by show 1 ≤ sizeLine; decide), fun r nr => ?_⟩
      have s4 := same_new nr (.lst [.int y])
      have rD : r ≠ D := (ne_of_none eD nr).symm
      have rp : p1 ≠ D := ne_of_none upd_same nD
      refine ⟨_, s4 _ _ eD, ?_, same_put (s3.trans s4) nD0 _, by rw [upd_ne rp]; exact s4 _ _ e3, as ++ [r], by rw [upd_same, List.map_append]; rfl, ?_, by rw [List.length_append, la]; rfl, ?_, ?_⟩
      · rw [List.length_map, la]
        exact small (by omega)
      · refine List.nodup_append.mpr ⟨nd, by simp, fun a ha b hb z => ?_⟩
        rw [List.mem_singleton.mp hb] at z
        subst z
        obtain ⟨j, hj⟩ := List.mem_iff_getElem?.mp ha
        have hj2 : j < as.length := (List.getElem?_eq_some_iff.mp hj).1
        have := ea j a items[j] hj (List.getElem?_eq_getElem (by omega))
        rw [nr] at this
        cases this
      · intro a ha
        rcases List.mem_append.mp ha with ha | ha
        · exact fr a ha
        · rw [List.mem_singleton.mp ha]
          exact ⟨s3.free nr, rD⟩
      · intro j a u hj hu
        by_cases hjl : j < as.length
        · rw [List.getElem?_append_left hjl] at hj
          have ha := List.mem_of_getElem? hj
          have e := ea j a u hj hu
          rw [upd_ne (fr a ha).2]
          exact s4 _ _ e
        · rw [List.getElem?_append_right (by omega)] at hj
          have : j = as.length := by
            have := (List.getElem?_eq_some_iff.mp hj).1
            simp at this
            omega
          subst this
          rw [Nat.sub_self] at hj
          simp at hj
          subst hj
          rw [la, hy'] at hu
          cases hu
          rw [upd_ne rD, upd_same]
    obtain ⟨s3, _, as, eD, nd, la, fr, ea⟩ := p
    have lt : (items.take many.toNat).length = many.toNat := by rw [List.length_take]; omega
    rw [List.length_map, lt] at la
    refine ⟨_, rfl, _, rfl, many, rfl, it, _, rfl, SqL.of (s3 _ _ hit), fun p2 n2 => ⟨p2, rfl, ⟨_, SqL.of upd_same⟩, ?_⟩⟩
    rw [cut_dropI _ _ (by omega) (by rw [hl]; exact m2), ← List.map_drop]
    have s5 := same_new n2 (.lst ((items.drop many.toNat).map V.int))
    have n20 : H p2 = none := s3.free n2
    have p2D : p2 ≠ D := (ne_of_none eD n2).symm
    have hst5 := hst.same (s3.trans s5)
    have p2st := hst.ne n20
    have Dst := hst.ne nD0
    refine for_list (K := K) (xs := (items.drop many.toNat).map V.int) (fun j σ H' => (∃ y, σ = [some (.ref st), some (.ref it), some (.int many), some (.ref D), y]) ∧ Bt st H H' ∧ StrOf H' st sc ∧ H' p2 = some (.lst ((items.drop many.toNat).map V.int)) ∧ H' D = some (.lst (as.map V.ref)) ∧
      ∃ css : List (List Int), as.length = css.length ∧ (∀ (i : Nat) a c, as[i]? = some a → css[i]? = some c → H' a = some (.lst (c.map V.int))) ∧ css.flatten.Perm (items.take (many.toNat + j)) ∧ ∀ c ∈ css, c ≠ [])
      ⟨⟨_, rfl⟩, bt_same (s3.trans s5), hst5, upd_same, s5 _ _ eD, (items.take many.toNat).map fun x => [x], by rw [List.length_map, lt, la], ?_, ?_, ?_⟩ (fun j σ H' _ p => SqL.of p.2.2.2.1) (fun j x σ H' hx p => ?_) (fun σ H' p => ?_)
    · intro i a c hi hc
      rw [List.getElem?_map] at hc
      obtain ⟨x, hx, rfl⟩ := Option.map_eq_some_iff.mp hc
      rw [List.getElem?_take] at hx
      split at hx
      · exact s5 _ _ (ea i a x hi hx)
      · cases hx
    · rw [flatten_one]
      exact List.Perm.refl _
    · intro c hc
      obtain ⟨x, _, rfl⟩ := List.mem_map.mp hc
      simp
    · obtain ⟨⟨y, rfl⟩, b1, hs1, e2, e3, css, lc, hcs, pm, ne⟩ := p
      rw [List.getElem?_map, List.getElem?_drop] at hx
      obtain ⟨x, hx', rfl⟩ := Option.map_eq_some_iff.mp hx
      refine ⟨_, rfl, _, rfl, _, rfl, st, sc, many, rfl, hs1, m1, by omega, fun H4 d b4 hs4 d0 d1 => ?_⟩
      have hd : d.toNat < as.length := by omega
      have hd2 : d.toNat < css.length := by omega
      have ha := List.getElem?_eq_getElem hd
      have hc := List.getElem?_eq_getElem hd2
      generalize hav : as[d.toNat] = a at ha
      generalize hcv : css[d.toNat] = c at hc
      have ham := List.mem_of_getElem? ha
      have na := hst.ne (fr a ham).1
      have ea' := b4 _ _ na.1 (hcs _ _ _ ha hc)
      have eD4 := b4 _ _ Dst.1 e3
      refine ⟨D, _, d, .ref a, rfl, rfl, SqL.of eD4, at_of (j := d.toNat) (by omega) (by rw [List.getElem?_map, ha]; rfl), .inl ⟨rfl, _, SqL.of ea'⟩, _, rfl, a, _, _, rfl, rfl, ea', ?_, ⟨_, rfl⟩, bt_put (b1.trans b4) (fr a ham).1 _, hs4.put na.1 na.2, ?_, ?_, css.set d.toNat (c ++ [x]), by rw [List.length_set]; exact lc, ?_, ?_, ?_⟩
      · have h1 := pm.length_eq
        have h2 : c.length ≤ css.flatten.length := by
          have := List.sublist_flatten_of_mem (List.mem_of_getElem? hc)
          exact this.length_le
        rw [List.length_take] at h1
        rw [List.length_map]
        exact small (by omega)
      · have z : p2 ≠ a := by
          rintro rfl
          have := hcs _ _ _ ha hc
          have f1 : (upd H1 p2 (.lst ((items.drop many.toNat).map V.int))) p2 = some (.lst ((items.drop many.toNat).map V.int)) := upd_same
          obtain ⟨u, hu⟩ : ∃ u, items[d.toNat]? = some u := ⟨_, List.getElem?_eq_getElem (by omega)⟩
          have := ea _ _ _ ha hu
          rw [n2] at this
          cases this
        rw [upd_ne z]
        exact b4 _ _ p2st.1 e2
      · rw [upd_ne (fr a ham).2.symm]
        exact eD4
      · intro i b e hi he
        rw [List.getElem?_set] at he
        by_cases q : d.toNat = i
        · subst q
          rw [if_pos rfl, if_pos hd2] at he
          cases he
          rw [ha] at hi
          cases hi
          rw [upd_same, List.map_append]
          rfl
        · rw [if_neg q] at he
          have nb : b ≠ a := fun z => by
            subst z
            exact q (nd_ix nd ha hi)
          rw [upd_ne nb]
          have nb2 := hst.ne (fr b (List.mem_of_getElem? hi)).1
          exact b4 _ _ nb2.1 (hcs i b e hi he)
      · refine (flatten_set hc).trans ?_
        rw [← Nat.add_assoc, take_snoc hx']
        exact pm.append_right _
      · intro e he
        rcases List.mem_or_eq_of_mem_set he with he | he
        · exact ne e he
        · rw [he]; simp
    · obtain ⟨⟨y, rfl⟩, b1, hs1, e2, e3, css, lc, hcs, pm, ne⟩ := p
      rw [List.length_map, List.length_drop, List.take_of_length_le (by omega)] at pm
      exact ⟨_, rfl, q H' D as css b1 hs1 nD0 e3 (fun a ha => (fr a ha).1) lc hcs (by omega) pm ne⟩
end
end Kt
/-! ## KtL3 -/
namespace Kt
open PySem L2 PyProof.Rows
theorem word_at (b : Bool) : atI [V.str "any", V.str "turn"] (bif b then 1 else 0) = some (.str (word b)) := by
  cases b
  · exact atI_nat (j := 0) rfl
  · exact atI_nat (j := 1) rfl
theorem flat_big : ∀ l : List (List Int), (∀ c ∈ l, c ≠ []) → l.length ≤ l.flatten.length
  | [], _ => by simp
  | x :: l, q => by
    have h1 := List.length_pos_iff.mpr (q x List.mem_cons_self)
    have h2 := flat_big l fun c hc => q c (List.mem_cons_of_mem _ hc)
    rw [List.flatten_cons, List.length_append, List.length_cons]
    omega
theorem part_short {css : List (List Int)} {n : Nat} (h : css.flatten.length = n) (h2 : 2 ≤ css.length) (ne : ∀ c ∈ css, c ≠ []) : ∀ c ∈ css, 1 ≤ c.length ∧ c.length < n := by
  intro c hc
  refine ⟨List.length_pos_iff.mpr (ne c hc), ?_⟩
  obtain ⟨a, b, rfl⟩ := List.append_of_mem hc
  rw [List.flatten_append, List.flatten_cons, List.length_append, List.length_append] at h
  have big := flat_big
  have h3 := big a fun c hc => ne c (List.mem_append_left _ hc)
  have h4 := big b fun c hc => ne c (List.mem_append_right _ (List.mem_cons_of_mem _ hc))
  rw [List.length_append, List.length_cons] at h2
  omega
section
variable {P : Program} {w : World} {K : PySem.W.Frag} {mg : Str → Option Value} {base : Heap}
/-! _law_grown -/
def spGrown (n : Nat) : Sp := fun vs H Q _ => ∃ (st sc it : Addr) (items : List Int), vs = [.ref st, .ref it] ∧ StrOf H st sc ∧ H it = some (.lst (items.map V.int)) ∧ it ≠ st ∧ 1 ≤ items.length ∧ items.length ≤ n ∧ items.length ≤ 100 ∧
  ∀ H' v t, Bt st H H' → StrOf H' st sc → TrAt H' t v → Ok t → (leaves t).Perm items → Q v H'
theorem sc_grown : FnScope ["_law_stream_here", "_law_items", "_law_word", "_law_least", "_law_many", "_law_part"] ["_law_stream_here", "_law_items"] (defScope (top 25)) := ⟨rfl, rfl, rfl, by decide +kernel, rfl, by decide +kernel, by decide +kernel⟩
theorem ok_grown (T : Txt w K mg) : ∀ n, FnOk P w K mg base CX0 (n + 2) T.grown.f T.grown.fd ["_law_stream_here", "_law_items"] (spGrown n)
  | 0 => none_left fun vs H Q E h => by
    obtain ⟨st, sc, it, items, _, _, _, _, h1, h2, _⟩ := h
    omega
  | n + 1 => by
    have Ggrown := ok_grown T n
    have Gnext := ok_next (P := P) (base := base) T
    have Gchunks := ok_chunks (P := P) (base := base) T
    refine T.grown.fn.ok sc_grown (fun vs H Q E h => ?_) (fun cdv A outer s H vs Q E hr h => ?_)
    · obtain ⟨st, sc, it, items, rfl, _⟩ := h
      rfl
    · obtain ⟨st, sc, it, items, rfl, hst, hit, hne, l1, ln, l100, q⟩ := h
      refine ⟨_, (pss_cons (ps_if (pt_cmpR op_eq (pe_callB call_len_seq (by rfl) T.nLen (by decide +kernel) (pa_cons (pv 1) pa_nil)) pe_int (nomark _))
        (pss_one (ps_ret (pe_ix (r := rIxL K) ix_list (pv 1) pe_int (fun _ _ => rfl))))
        pss_nil)
        (pss_cons (ps_set (i := 2) sc_grown.nd rfl (Or.inl rfl) (pe_ix (r := rIxL K) ix_list (pe_lst (pa_cons pe_str (pa_cons pe_str pa_nil))) (pe_call Gnext (hr.mono (by omega)) (by rfl) T.next.g T.next.fn.kp T.next.b .nil pass0 (pa_cons (pv 0) (pa_cons pe_int pa_nil))) (fun _ _ => rfl)))
        (pss_cons (ps_if (pt_cmpR op_eq (pe_callB call_len_seq (by rfl) T.nLen (by decide +kernel) (pa_cons (pv 1) pa_nil)) pe_int (nomark _))
        (pss_one (ps_set (i := 2) sc_grown.nd rfl (Or.inl rfl) pe_str))
        pss_nil)
        (pss_cons (ps_set (i := 3) sc_grown.nd rfl (Or.inl rfl) (pe_op op_add pe_int (pe_callTy call_int1 (by rfl) T.nInt (by decide +kernel) (pa_cons (pe_cmpR op_eq (pv 2) pe_str (nomark _)) pa_nil))))
        (pss_cons (ps_set (i := 4) sc_grown.nd rfl (Or.inl rfl) (pe_op op_add (pv 3) (pe_call Gnext (hr.mono (by omega)) (by rfl) T.next.g T.next.fn.kp T.next.b .nil pass0 (pa_cons (pv 0) (pa_cons (pe_op op_add (pe_op op_sub (pe_callB call_len_seq (by rfl) T.nLen (by decide +kernel) (pa_cons (pv 1) pa_nil)) (pv 3)) pe_int) pa_nil)))))
        (pss_one (ps_ret (pe_tup (pa_cons (pv 2) (pa_cons (pe_callTy call_tuple_of (by rfl) T.nTuple (by decide +kernel) (pa_cons (pe_lc (own := [("_law_part", 5)]) (g := gName 5) (tt := tYes) rfl sc_grown.nd (pi_list (pe_call Gchunks (hr.mono (by omega)) (by rfl) T.chunks.g T.chunks.fn.kp T.chunks.b .nil pass0 (pa_cons (pv 0) (pa_cons (pv 1) (pa_cons (pv 4) pa_nil))))) (blkOk_by (own := [("_law_part", 5)]) (N := ["_law_stream_here", "_law_items", "_law_word", "_law_least", "_law_many", "_law_part"]) (sc := defScope (top 25)) (by decide +kernel)) (fun _ _ _ _ _ => pg_name (i := 5) sc_grown.nd rfl (Or.inl rfl)) (fun _ _ _ _ _ => pts_nil) (fun _ _ _ _ _ => (pe_call Ggrown (hr.mono (by omega)) (by rfl) T.grown.g T.grown.fn.kp T.grown.b .nil pass0 (pa_cons (pv 0) (pa_cons (pv 5) pa_nil))))) pa_nil)) pa_nil)))))))))), ?_⟩
      have hl : (items.map V.int).length = items.length := List.length_map _
      refine ⟨_, rfl, it, _, rfl, .inl (SqL.of hit), rfl, _, rfl, ite2 (fun e => ?_) (fun e => ?_)⟩
      · have e1 := V.int.inj (of_decide_eq_true e)
        rw [hl] at e1
        cases items with
        | nil => simp at l1
        | cons x r =>
          cases r with
          | cons y r => simp at e1; omega
          | nil =>
            refine ⟨_, rfl, it, _, 0, _, rfl, rfl, SqL.of hit, atI_nat (j := 0) rfl, q H (.int x) (.leaf x) (Bt.refl _ _) hst ?_ ?_ ?_⟩
            · rw [TrAt]
            · rw [Ok]; trivial
            · rw [leaves]
      · have e1 : items.length ≠ 1 := fun z => e (decide_eq_true (by rw [hl, z]; rfl))
        refine ⟨by show 2 ≤ sizeLine; decide, fun W nW => ?_⟩
        have s1 := same_new nW (.lst [.str "any", .str "turn"])
        have hst1 := hst.same s1
        have Wst := hst.ne nW
        refine ⟨_, rfl, st, sc, 2, rfl, hst1, by decide, by decide, fun H2 d b2 hst2 d0 d1 => ?_⟩
        obtain ⟨b, hb⟩ : ∃ b : Bool, d = bif b then 1 else 0 := by
          have : d = 0 ∨ d = 1 := by omega
          rcases this with z | z
          · exact ⟨false, z⟩
          · exact ⟨true, z⟩
        refine ⟨W, _, d, _, rfl, rfl, SqL.of (b2 _ _ Wst.1 upd_same), by rw [hb]; exact word_at b, ?_⟩
        have b12 : Bt st H H2 := (bt_same s1).trans b2
        have hit2 := b12 _ _ hne hit
        refine ⟨_, rfl, it, _, rfl, .inl (SqL.of hit2), rfl, _, rfl, ?_⟩
        refine ite_key (fun σ H' => (∃ b y z u, (b = true → 3 ≤ items.length) ∧ σ = [some (.ref st), some (.ref it), some (.str (word b)), y, z, u]) ∧ H' = H2) (fun σ H' p => ?_) (fun _ key => ?_) (fun e2 => ?_)
        · obtain ⟨⟨b, y, z, u, h3, rfl⟩, rfl⟩ := p
          refine ⟨_, rfl, rfl, .inr ⟨_, rfl, _, _, rfl, rfl, ?_⟩⟩
          rw [show (if decide (V.str (word b) = V.str "turn") = true then (1 : Int) else 0) = bif b then 1 else 0 by rw [word_turn]; cases b <;> rfl]
          have lst3 : (2 + (bif b then (1 : Int) else 0)) = (((bif b then 3 else 2 : Nat)) : Int) := by cases b <;> rfl
          dsimp only
          rw [lst3]
          have lle : (bif b then 3 else 2 : Nat) ≤ items.length := by
            cases b with
            | false => show 2 ≤ _; omega
            | true => exact h3 rfl
          have lge : 2 ≤ (bif b then 3 else 2 : Nat) := by cases b <;> decide
          generalize hlq : (bif b then 3 else 2 : Nat) = least at lle lge ⊢
          refine ⟨_, rfl, _, rfl, _, rfl, it, _, rfl, .inl (SqL.of hit2), _, rfl, _, _, rfl, rfl, _, _, rfl, rfl, st, sc, _, rfl, hst2, by rw [hl]; omega, by rw [hl]; omega, fun H3 e b3 hst3 f0 f1 => ?_⟩
          rw [hl] at f1
          refine ⟨_, _, rfl, rfl, ?_⟩
          dsimp only
          have m1 : 1 ≤ ((least : Nat) : Int) + e := by omega
          have m2 : ((least : Nat) : Int) + e ≤ (items.length : Int) := by omega
          have m3 : (2 : Int) ≤ ((least : Nat) : Int) + e := by omega
          have m4 : ((least : Nat) : Int) ≤ ((least : Nat) : Int) + e := by omega
          generalize ((least : Nat) : Int) + e = many at m1 m2 m3 m4 ⊢
          have b13 : Bt st H H3 := b12.trans b3
          have hit3 := b13 _ _ hne hit
          refine ⟨_, rfl, _, rfl, _, rfl, _, rfl, st, sc, it, items, many, rfl, hst3, hit3, hne, m1, m2, l100, fun H5 p5 as css b5 hst5 n5 e5 fr lc hcs cm pm ne => ?_⟩
          refine ⟨p5, rfl, ⟨_, SqL.of e5⟩, fun D nD => ?_⟩
          have hD := hst5.ne nD
          have p5st := (hst3.ne n5).1
          have shrt := part_short pm.length_eq (by omega) ne
          refine lc_list (K := K) (xs := as.map V.ref) (fun i H' => Bt st H5 H' ∧ StrOf H' st sc ∧ ∃ vs ts, H' D = some (.lst vs) ∧ TrsAt H' ts vs ∧ ts.length = i ∧ OkL ts ∧ (leavesL ts).Perm (css.take i).flatten)
            ⟨bt_put (Bt.refl _ _) nD _, hst5.put hD.1 hD.2, [], [], upd_same, by rw [TrsAt], rfl, by rw [OkL]; trivial, by rw [leavesL]; exact List.Perm.refl _⟩ (fun i H' _ p => SqL.of (p.1 _ _ p5st e5)) (fun i x H' hx p => ?_) (fun H' p => ?_)
          · obtain ⟨b6, hst6, vs, ts, eD, hts, lts, okt, pl⟩ := p
            rw [List.getElem?_map] at hx
            obtain ⟨a, ha, rfl⟩ := Option.map_eq_some_iff.mp hx
            have hi : i < as.length := (List.getElem?_eq_some_iff.mp ha).1
            have hc := List.getElem?_eq_getElem (show i < css.length by omega)
            generalize css[i] = c at hc
            have hcm := List.mem_of_getElem? hc
            have ham := List.mem_of_getElem? ha
            have ast := (hst3.ne (fr a ham)).1
            have ea := b6 _ _ ast (hcs i a c ha hc)
            obtain ⟨c1, c2⟩ := shrt c hcm
            refine ⟨rfl, yes ?_⟩
            refine ⟨_, rfl, _, rfl, st, sc, a, c, rfl, hst6, ea, ast, c1, by omega, by omega, fun H7 v t b7 hst7 ht ok pt => ?_⟩
            have eD7 := b7 _ _ hD.1 eD
            have tp := tups_put (o := .lst (vs ++ [v])) (Tups.refl H7) eD7
            refine ⟨vs, eD7, ?_, bt_put (b6.trans b7) nD _, hst7.put hD.1 hD.2, vs ++ [v], ts ++ [t], upd_same, ?_, by rw [List.length_append, lts]; rfl, ?_, ?_⟩
            · rw [hts.len, lts]
              have hcl : css.length ≤ 100 := by
                have big : ∀ l : List (List Int), (∀ c ∈ l, c ≠ []) → l.length ≤ l.flatten.length := flat_big
                have := big css ne
                have := pm.length_eq
                omega
              exact small (by omega)
            · exact ((hts.keep (bt_tups b7 hst6)).keep tp).snoc (ht.keep tp)
            · rw [OkL_iff] at okt ⊢
              intro u hu
              rcases List.mem_append.mp hu with hu | hu
              · exact okt u hu
              · rw [List.mem_singleton.mp hu]; exact ok
            · rw [leavesL_snoc, take_snoc hc, List.flatten_append, List.flatten_cons, List.flatten_nil, List.append_nil]
              exact pl.append pt
          · obtain ⟨b6, hst6, vs, ts, eD, hts, lts, okt, pl⟩ := p
            rw [List.length_map] at lts pl
            rw [List.take_of_length_le (by omega)] at pl
            refine ⟨D, vs, rfl, .inl ⟨SqL.of eD, fun l nl => ⟨by show 2 ≤ sizeLine; decide, fun r nr => ?_⟩⟩⟩
            have sl := same_new nl (.tup vs)
            have sr := same_new nr (.tup [.str (word b), .ref l])
            have sA := sl.trans sr
            refine q _ (.ref r) (.node b ts) ((b13.trans b5).trans (b6.trans (bt_same sA))) (hst6.same sA) ?_ ?_ ?_
            · rw [TrAt]
              exact ⟨r, l, vs, rfl, upd_same, sr _ _ upd_same, hts.keep (tups_same sA)⟩
            · rw [Ok]
              exact ⟨by omega, okt⟩
            · rw [leaves]
              exact pl.trans pm
        · exact key _ _ ⟨⟨false, _, _, _, (fun z => nomatch z), rfl⟩, rfl⟩
        · have e3 : items.length ≠ 2 := fun z => by
            have := of_decide_eq_false e2
            rw [hl, z] at this
            exact this rfl
          exact ⟨⟨b, _, _, _, fun _ => by omega, rfl⟩, rfl⟩
/-! _law_tree -/
def spLTree : Sp := fun vs H Q _ => ∃ (st sc : Addr) (n : Nat), vs = [.ref st, .int (n : Int)] ∧ StrOf H st sc ∧ 1 ≤ n ∧ n ≤ 5 ∧ ∀ H' v t, Bt st H H' → StrOf H' st sc → TrAt H' t v → Ok t → (leaves t).Perm (rng n) → Q v H'
theorem sc_tree : FnScope ["_law_stream_here", "_law_size"] ["_law_stream_here", "_law_size"] (defScope (top 26)) := ⟨rfl, rfl, rfl, by decide +kernel, rfl, by decide +kernel, by decide +kernel⟩
theorem ok_tree (T : Txt w K mg) : FnOk P w K mg base CX0 8 T.tree.f T.tree.fd ["_law_stream_here", "_law_size"] spLTree := by
  have Ggrown := ok_grown (P := P) (base := base) T 5
  have Gshuffled := ok_shuffled (P := P) (base := base) T
  refine T.tree.fn.ok sc_tree (fun vs H Q E h => ?_) (fun cdv A outer s H vs Q E hr h => ?_)
  · obtain ⟨st, sc, n, rfl, _⟩ := h
    rfl
  · obtain ⟨st, sc, n, rfl, hst, n1, n5, q⟩ := h
    refine ⟨_, (pss_one (ps_ret (pe_call Ggrown (hr.mono (by omega)) (by rfl) T.grown.g T.grown.fn.kp T.grown.b .nil pass0 (pa_cons (pv 0) (pa_cons (pe_call Gshuffled (hr.mono (by omega)) (by rfl) T.shuffled.g T.shuffled.fn.kp T.shuffled.b .nil pass0 (pa_cons (pv 0) (pa_cons (pe_listRg rfl (by rfl) T.nList (prg_1 (by rfl) T.nRange (pv 1))) pa_nil))) pa_nil))))), ?_⟩
    refine ⟨_, rfl, _, rfl, _, rfl, n, rfl, RgOk.of_le (Int.le_refl 0) (by omega) (by decide) (by omega), fun p np => ?_⟩
    have s1 := same_new np (.lst (rgV 0 (n : Int)))
    have hst1 := hst.same s1
    refine ⟨st, sc, p, rng n, rfl, hst1, by rw [upd_same, rgV_eq], by rw [rng_len]; omega, fun H2 p2 ns b2 hst2 n2 e2 pm => ?_⟩
    have lp := pm.length_eq
    rw [rng_len] at lp
    exact ⟨st, sc, p2, ns, rfl, hst2, e2, (hst1.ne n2).1, by omega, by omega, by omega, fun H3 v t b3 hst3 ht ok pl => q H3 v t ((bt_same s1).trans (b2.trans b3)) hst3 ht ok (pl.trans pm)⟩
end
end Kt
/-! ## KtL4 -/
namespace Kt
open PySem L2 PyProof.Rows
theorem longer_snoc (items : List Int) (l : List (List Int)) (row : List Int) : longer items (l ++ [row]) = longer items l ++ (items.filter fun x => !decide (x ∈ row)).map fun x => row ++ [x] := by
  unfold longer
  rw [List.flatMap_append, List.flatMap_cons, List.flatMap_nil, List.append_nil]
theorem longer_le (items : List Int) (l : List (List Int)) : (longer items l).length ≤ l.length * items.length := by
  unfold longer
  refine flat_le _ _ l fun row _ => ?_
  rw [List.length_map]
  exact List.length_filter_le _ _
theorem flat_take {α β : Type} (f : α → List β) (l : List α) (k : Nat) : ((l.take k).flatMap f).length ≤ (l.flatMap f).length := by
  have e : l.flatMap f = (l.take k).flatMap f ++ (l.drop k).flatMap f := by rw [← List.flatMap_append, List.take_append_drop]
  rw [e, List.length_append]
  omega
theorem ordN_le {items : List Int} (h : items.length ≤ 5) : ∀ k, (ordN items k).length ≤ 5 ^ k
  | 0 => by simp [ordN]
  | k + 1 => by
    have h1 := longer_le items (ordN items k)
    have h2 := ordN_le h k
    rw [ordN, Nat.pow_succ]
    exact Nat.le_trans h1 (Nat.mul_le_mul h2 h)
section
variable {P : Program} {w : World} {K : PySem.W.Frag} {mg : Str → Option Value} {base : Heap}
/-! _law_orders -/
def spOrders : Sp := fun vs H Q _ => ∃ (it : Addr) (items : List Int), vs = [.ref it] ∧ H it = some (.lst (items.map V.int)) ∧ items.length ≤ 5 ∧ ∀ H' p xs, Same H H' → H p = none → H' p = some (.lst xs) → TupsAt H' xs (orders items) → Q (.ref p) H'
theorem sc_orders : FnScope ["_law_items", "_law_rows_here", "_law_turn", "_law_longer", "_law_row", "_law_item"] ["_law_items"] (defScope (top 27)) := ⟨rfl, rfl, rfl, by decide +kernel, rfl, by decide +kernel, by decide +kernel⟩
theorem ok_orders (T : Txt w K mg) : FnOk P w K mg base CX0 1 T.orders.f T.orders.fd ["_law_items"] spOrders := by
  refine T.orders.fn.ok sc_orders (fun vs H Q E h => ?_) (fun cdv A outer s H vs Q E hr h => ?_)
  · obtain ⟨it, items, rfl, _⟩ := h
    rfl
  · obtain ⟨it, items, rfl, hit, h5, q⟩ := h
    refine ⟨_, (pss_cons (ps_set (i := 1) sc_orders.nd rfl (Or.inl rfl) (pe_lst (pa_cons (pe_tup pa_nil) pa_nil)))
      (pss_cons (ps_for PassesOwn.never rfl (pi_range1 (by rfl) T.nRange (pa_cons (pe_callB call_len_seq (by rfl) T.nLen (by decide +kernel) (pa_cons (pv 0) pa_nil)) pa_nil)) (pg_name (i := 2) sc_orders.nd rfl (Or.inl rfl))
      (pss_cons (ps_set (i := 3) sc_orders.nd rfl (Or.inl rfl) (pe_lst pa_nil))
      (pss_cons (ps_for PassesOwn.never rfl (pi_list (pv 1)) (pg_name (i := 4) sc_orders.nd rfl (Or.inr rfl))
      (pss_one (ps_set (i := 3) sc_orders.nd rfl (Or.inl rfl) (pe_op op_cat (pv 3) (pe_lc (own := [("_law_item", 5)]) (g := gName 5) rfl sc_orders.nd (pi_list (pv 0)) (blkOk_by (own := [("_law_item", 5)]) (N := ["_law_items", "_law_rows_here", "_law_turn", "_law_longer", "_law_row", "_law_item"]) (sc := defScope (top 27)) (by decide +kernel)) (fun _ _ _ _ _ => pg_name (i := 5) sc_orders.nd rfl (Or.inl rfl)) (fun _ _ _ _ _ => (pts_one (pt_cmpR (r := rIn K true) op_notIn_seq (pv 5) (pv 4) rfl))) (fun _ _ _ _ _ => (pe_op (r := rCatC K) op_catC (pv 4) (pe_tup (pa_cons (pv 5) pa_nil)))))))))
      (pss_one (ps_set (i := 1) sc_orders.nd rfl (Or.inl rfl) (pv 3))))))
      (pss_one (ps_ret (pv 1))))), ?_⟩
    have hl : (items.map V.int).length = items.length := List.length_map _
    refine ⟨Nat.zero_le _, fun p0 n0 => ⟨by show 1 ≤ sizeLine; decide, fun R0 nR0 => ?_⟩⟩
    have s1 := same_new n0 (.tup [])
    have s2 := same_new nR0 (.lst [.ref p0])
    have s12 := s1.trans s2
    refine ⟨_, rfl, it, _, rfl, .inl (SqL.of (s12 _ _ hit)), _, rfl, by rw [hl]; omega, by rw [hl]; omega, ?_⟩
    rw [Int.toNat_natCast, hl]
    refine for_range (lo := 0) (n := items.length) (fun i σ H' => (∃ R y z u v xs, σ = [some (.ref it), some (.ref R), y, z, u, v] ∧ H R = none ∧ H' R = some (.lst xs) ∧ TupsAt H' xs (ordN items i)) ∧ Same H H')
      ⟨⟨R0, _, _, _, _, _, rfl, s1.free nR0, upd_same, .cons ⟨p0, rfl, s2 _ _ upd_same⟩ .nil⟩, s12⟩ (fun i σ H' hi p => ?_) (fun σ H' p => ?_)
    · obtain ⟨⟨R, y, z, u, v, xs, rfl, nR, eR, hxs⟩, b1⟩ := p
      refine ⟨Nat.zero_le _, fun L0 nL0 => ?_⟩
      have sL := same_new nL0 (.lst [])
      refine ⟨_, rfl, R, rfl, ⟨_, SqL.of (sL _ _ eR)⟩, ?_⟩
      refine for_list (K := K) (xs := xs) (fun j σ H2 => (∃ y u v Lc ls, σ = [some (.ref it), some (.ref R), y, some (.ref Lc), u, v] ∧ H Lc = none ∧ H2 Lc = some (.lst ls) ∧ TupsAt H2 ls (longer items ((ordN items i).take j))) ∧ Same H' H2)
        ⟨⟨_, _, _, L0, [], rfl, b1.free nL0, upd_same, .nil⟩, sL⟩ (fun j σ H2 _ p => SqL.of (p.2 _ _ eR)) (fun j x σ H2 hx p => ?_) (fun σ H2 p => ?_)
      · obtain ⟨⟨y, u, v, Lc, ls, rfl, nLc, eL, hls⟩, b2⟩ := p
        obtain ⟨row, hrow, r, rfl, er⟩ := paired_get hxs hx
        have er2 := b2 _ _ er
        have hit2 := b2 _ _ (b1 _ _ hit)
        refine ⟨_, rfl, _, rfl, it, rfl, ⟨_, SqL.of hit2⟩, fun D nD => ?_⟩
        refine lc_list (K := K) (xs := items.map V.int) (fun k H3 => Same H2 H3 ∧ ∃ zs, H3 D = some (.lst zs) ∧ TupsAt H3 zs (((items.take k).filter fun x => !decide (x ∈ row)).map fun x => row ++ [x]))
          ⟨same_new nD _, [], upd_same, .nil⟩ (fun k H3 _ p => SqL.of (p.1 _ _ hit2)) (fun k x H3 hx p => ?_) (fun H3 p => ?_)
        · obtain ⟨b3, zs, eD, hzs⟩ := p
          rw [List.getElem?_map] at hx
          obtain ⟨e, he, rfl⟩ := Option.map_eq_some_iff.mp hx
          have rl : row.length ≤ 5 := by
            have := (mem_ordN.mp (List.mem_of_getElem? hrow)).1
            omega
          refine ⟨rfl, _, rfl, _, rfl, r, _, rfl, .inr (SqT.of (b3 _ _ er2)), rfl, flat_ints _, _, rfl, ?_⟩
          rw [in_ints]
          by_cases m : e ∈ row
          · rw [decide_eq_true m]
            refine iteF ⟨b3, zs, eD, ?_⟩
            rw [take_snoc he, List.filter_append]
            simp only [List.filter_cons, List.filter_nil, m, decide_true, Bool.not_true, Bool.false_eq_true, if_false, List.append_nil]
            exact hzs
          · rw [decide_eq_false m]
            refine iteT ⟨_, rfl, _, rfl, by show 1 ≤ sizeLine; decide, fun p np => ?_⟩
            have s4 := same_new np (.tup [.int e])
            refine ⟨r, p, _, _, rfl, rfl, s4 _ _ (b3 _ _ er2), upd_same, by rw [List.length_map]; exact small' (by show row.length + 1 ≤ _; omega), fun d H5 s5 ed => ?_⟩
            have s45 := s4.trans s5
            have eD5 := s45 _ _ eD
            refine ⟨zs, eD5, ?_, same_put (b3.trans s45) nD _, _, upd_same, ?_⟩
            · have z1 := Paired.length hzs
              rw [List.length_map] at z1
              have z2 := List.length_filter_le (fun x => !decide (x ∈ row)) (items.take k)
              rw [List.length_take] at z2
              exact small (by omega)
            · rw [take_snoc he, List.filter_append, List.map_append]
              simp only [List.filter_cons, List.filter_nil, m, decide_false, Bool.not_false, if_true]
              have ne : d ≠ D := ne_of ed eD5 (fun z => nomatch z)
              exact paired_app (hzs.keep (tups_put (tups_same s45) eD)) (.cons ⟨d, rfl, by rw [upd_ne ne, ed, List.map_append]; rfl⟩ .nil)
        · obtain ⟨b3, zs, eD, hzs⟩ := p
          rw [hl, List.take_length] at hzs
          have eL3 := b3 _ _ eL
          refine ⟨Lc, D, _, _, rfl, rfl, eL3, eD, ?_, fun p np => ?_⟩
          · have z1 := Paired.length hls
            have z2 := Paired.length hzs
            have z3 := flat_take (fun row => (items.filter fun x => !decide (x ∈ row)).map fun x => row ++ [x]) (ordN items i) (j + 1)
            have z4 : (longer items ((ordN items i).take (j + 1))).length ≤ (ordN items (i + 1)).length := z3
            have z5 := ordN_le h5 (i + 1)
            rw [take_snoc hrow, longer_snoc, List.length_append] at z4
            have z6 : 5 ^ (i + 1) ≤ 5 ^ 5 := Nat.pow_le_pow_right (by decide) (by omega)
            exact small' (by omega)
          · have s6 := same_new np (.lst (ls ++ zs))
            refine ⟨⟨_, _, _, p, _, rfl, (b1.trans (b2.trans b3)).free np, upd_same, ?_⟩, b2.trans (b3.trans s6)⟩
            rw [take_snoc hrow, longer_snoc]
            exact paired_app (hls.keep (tups_same (b3.trans s6))) (hzs.keep (tups_same s6))
      · obtain ⟨⟨y, u, v, Lc, ls, rfl, nLc, eL, hls⟩, b2⟩ := p
        rw [Paired.length hxs, List.take_length] at hls
        exact ⟨_, rfl, ⟨Lc, _, _, _, _, ls, rfl, nLc, eL, hls⟩, b1.trans b2⟩
    · obtain ⟨⟨R, y, z, u, v, xs, rfl, nR, eR, hxs⟩, b1⟩ := p
      exact ⟨_, rfl, q H' R xs b1 nR eR hxs⟩
end
end Kt
/-! ## KtL5 -/
namespace Kt
open PySem L2 PyProof.Rows
theorem joinR_snoc (Rs : List (List (List Int))) (R : List (List Int)) : joinR (Rs ++ [R]) = (joinR Rs).flatMap fun row => R.map fun part => row ++ part := by
  unfold joinR
  rw [List.foldl_append]
  rfl
theorem join_small {ds : List Tr} (h : ∀ d ∈ ds, Ok d ∧ (leaves d).length ≤ 5) (hp : partsL ds ≤ 9) (k : Nat) : (joinR ((ds.take k).map rows)).length ≤ 20000 := by
  have h1 := prod_len (ds.take k) fun t ht => rows_len t (h t (List.mem_of_mem_take ht)).1 (h t (List.mem_of_mem_take ht)).2
  have h2 : partsL (ds.take k) ≤ partsL ds := by
    have app : ∀ xs ys : List Tr, partsL (xs ++ ys) = partsL xs + partsL ys := by
      intro xs ys
      induction xs with
      | nil => simp [partsL]
      | cons x xs ih => rw [List.cons_append, partsL, partsL, ih]; omega
    have := app (ds.take k) (ds.drop k)
    rw [List.take_append_drop] at this
    omega
  have h3 : 3 ^ partsL (ds.take k) ≤ 3 ^ 9 := Nat.pow_le_pow_right (by decide) (by omega)
  have h4 : 1 ≤ 3 ^ (ds.take k).length := Nat.pow_pos (by decide)
  have h5 := Nat.le_mul_of_pos_right (joinR ((ds.take k).map rows)).length h4
  have h6 : (3 : Nat) ^ 9 ≤ 20000 := by decide
  omega
theorem rows_small {t : Tr} (ok : Ok t) (h : (leaves t).length ≤ 5) : (rows t).length ≤ 20000 := by
  have h1 := rows_len t ok h
  have h2 := parts_le t ok
  have h3 : 3 ^ parts t ≤ 3 ^ 9 := Nat.pow_le_pow_right (by decide) (by omega)
  have h6 : (3 : Nat) ^ 9 ≤ 20000 := by decide
  omega
theorem row_size {t : Tr} {r : List Int} (h : r ∈ rows t) : r.length = (leaves t).length := (rows_perm t r h).length_eq
theorem join_size {ds : List Tr} {r : List Int} (h : r ∈ joinR (ds.map rows)) : r.length = (leavesL ds).length := by
  obtain ⟨rs, p, rfl⟩ := mem_joinR.mp h
  exact (blk_perm (blk_pick p)).length_eq
section
variable {P : Program} {w : World} {K : PySem.W.Frag} {mg : Str → Option Value} {base : Heap}
/-! _law_joined, _law_rows -/
def spJoined (n : Nat) : Sp := fun vs H Q _ => ∃ (ch : Addr) (us : List V) (ds : List Tr), vs = [.ref ch] ∧ H ch = some (.lst us) ∧ TrsAt H ds us ∧ (∀ d ∈ ds, Ok d ∧ deep d < n ∧ (leaves d).length ≤ 5) ∧ partsL ds ≤ 9 ∧ ∀ H' p xs, Same H H' → H p = none → H' p = some (.lst xs) → TupsAt H' xs (joinR (ds.map rows)) → Q (.ref p) H'
def spRows (n : Nat) : Sp := fun vs H Q _ => ∃ (v : V) (t : Tr), vs = [v] ∧ TrAt H t v ∧ Ok t ∧ deep t < n ∧ (leaves t).length ≤ 5 ∧ ∀ H' p xs, Same H H' → H p = none → H' p = some (.lst xs) → TupsAt H' xs (rows t) → Q (.ref p) H'
theorem sc_joined : FnScope ["_law_children", "_law_rows_here", "_law_child", "_law_longer", "_law_row", "_law_part"] ["_law_children"] (defScope (top 28)) := ⟨rfl, rfl, rfl, by decide +kernel, rfl, by decide +kernel, by decide +kernel⟩
theorem sc_rows : FnScope ["_law_tree_here", "_law_places", "_law_orders_here", "_law_rows_here", "_law_order", "_law_at"] ["_law_tree_here"] (defScope (top 29)) := ⟨rfl, rfl, rfl, by decide +kernel, rfl, by decide +kernel, by decide +kernel⟩
theorem ok_joined (T : Txt w K mg) {n k : Nat} (Grows : FnOk P w K mg base CX0 k T.rows.f T.rows.fd ["_law_tree_here"] (spRows n)) : FnOk P w K mg base CX0 (k + 1) T.joined.f T.joined.fd ["_law_children"] (spJoined n) := by
  refine T.joined.fn.ok sc_joined (fun vs H Q E h => ?_) (fun cdv A outer s H vs Q E hr h => ?_)
  · obtain ⟨ch, us, ds, rfl, _⟩ := h
    rfl
  · obtain ⟨ch, us, ds, rfl, hch, hts, hds, hp, q⟩ := h
    refine ⟨_, (pss_cons (ps_set (i := 1) sc_joined.nd rfl (Or.inl rfl) (pe_lst (pa_cons (pe_tup pa_nil) pa_nil)))
      (pss_cons (ps_for PassesOwn.never rfl (pi_list (pv 0)) (pg_name (i := 2) sc_joined.nd rfl (Or.inl rfl))
      (pss_cons (ps_set (i := 3) sc_joined.nd rfl (Or.inl rfl) (pe_lst pa_nil))
      (pss_cons (ps_for PassesOwn.never rfl (pi_list (pv 1)) (pg_name (i := 4) sc_joined.nd rfl (Or.inr rfl))
      (pss_one (ps_set (i := 3) sc_joined.nd rfl (Or.inl rfl) (pe_op op_cat (pv 3) (pe_lc (own := [("_law_part", 5)]) (g := gName 5) (tt := tYes) rfl sc_joined.nd (pi_list (pe_call Grows (hr.mono (by omega)) (by rfl) T.rows.g T.rows.fn.kp T.rows.b .nil pass0 (pa_cons (pv 2) pa_nil))) (blkOk_by (own := [("_law_part", 5)]) (N := ["_law_children", "_law_rows_here", "_law_child", "_law_longer", "_law_row", "_law_part"]) (sc := defScope (top 28)) (by decide +kernel)) (fun _ _ _ _ _ => pg_name (i := 5) sc_joined.nd rfl (Or.inl rfl)) (fun _ _ _ _ _ => pts_nil) (fun _ _ _ _ _ => (pe_op (r := rCatC K) op_catC (pv 4) (pv 5))))))))
      (pss_one (ps_set (i := 1) sc_joined.nd rfl (Or.inl rfl) (pv 3))))))
      (pss_one (ps_ret (pv 1))))), ?_⟩
    have hlen := hts.len
    have hsm := join_small (fun d hd => ⟨(hds d hd).1, (hds d hd).2.2⟩) hp
    refine ⟨Nat.zero_le _, fun p0 n0 => ⟨by show 1 ≤ sizeLine; decide, fun R0 nR0 => ?_⟩⟩
    have s1 := same_new n0 (.tup [])
    have s2 := same_new nR0 (.lst [.ref p0])
    have s12 := s1.trans s2
    refine ⟨_, rfl, ch, rfl, ⟨_, SqL.of (s12 _ _ hch)⟩, ?_⟩
    refine for_list (K := K) (xs := us) (fun i σ H' => (∃ R y z u v xs, σ = [some (.ref ch), some (.ref R), y, z, u, v] ∧ H R = none ∧ H' R = some (.lst xs) ∧ TupsAt H' xs (joinR ((ds.take i).map rows))) ∧ Same H H')
      ⟨⟨R0, _, _, _, _, _, rfl, s1.free nR0, upd_same, .cons ⟨p0, rfl, s2 _ _ upd_same⟩ .nil⟩, s12⟩ (fun i σ H' _ p => SqL.of (p.2 _ _ hch)) (fun i x σ H' hx p => ?_) (fun σ H' p => ?_)
    · obtain ⟨⟨R, y, z, u, v, xs, rfl, nR, eR, hxs⟩, b1⟩ := p
      obtain ⟨t, ht, hv⟩ := hts.get hx
      have htm : t ∈ ds := List.mem_of_getElem? ht
      obtain ⟨okt, dt, l5⟩ := hds t htm
      refine ⟨Nat.zero_le _, fun L0 nL0 => ?_⟩
      have sL := same_new nL0 (.lst [])
      refine ⟨_, rfl, R, rfl, ⟨_, SqL.of (sL _ _ eR)⟩, ?_⟩
      refine for_list (K := K) (xs := xs) (fun j σ H2 => (∃ u v Lc ls, σ = [some (.ref ch), some (.ref R), some x, some (.ref Lc), u, v] ∧ H Lc = none ∧ H2 Lc = some (.lst ls) ∧ TupsAt H2 ls (((joinR ((ds.take i).map rows)).take j).flatMap fun row => (rows t).map fun part => row ++ part)) ∧ Same H' H2)
        ⟨⟨_, _, L0, [], rfl, b1.free nL0, upd_same, .nil⟩, sL⟩ (fun j σ H2 _ p => SqL.of (p.2 _ _ eR)) (fun j x2 σ H2 hx2 p => ?_) (fun σ H2 p => ?_)
      · obtain ⟨⟨u, v, Lc, ls, rfl, nLc, eL, hls⟩, b2⟩ := p
        obtain ⟨row, hrow, r, rfl, er⟩ := paired_get hxs hx2
        have er2 := b2 _ _ er
        have rl : row.length ≤ 5 * 20 := by
          have h1 := join_size (List.mem_of_getElem? hrow)
          have h2 := leavesL_take (cs := ds) i
          have h3 := leavesL_parts ds
          omega
        refine ⟨_, rfl, _, rfl, x, t, rfl, hv.keep (tups_same (b1.trans b2)), okt, dt, l5, fun H3 pr zs3 s3 n3 e3 h3 => ?_⟩
        refine ⟨pr, rfl, ⟨_, SqL.of e3⟩, fun D nD => ?_⟩
        refine lc_list (K := K) (xs := zs3) (fun k H4 => Same H3 H4 ∧ ∃ zs, H4 D = some (.lst zs) ∧ TupsAt H4 zs (((rows t).take k).map fun part => row ++ part))
          ⟨same_new nD _, [], upd_same, .nil⟩ (fun k H4 _ p => SqL.of (p.1 _ _ e3)) (fun k x3 H4 hx3 p => ?_) (fun H4 p => ?_)
        · obtain ⟨b4, zs, eD, hzs⟩ := p
          obtain ⟨part, hpart, r2, rfl, er3⟩ := paired_get h3 hx3
          have pl : part.length ≤ 5 := by rw [row_size (List.mem_of_getElem? hpart)]; exact l5
          have hk : k < (rows t).length := (List.getElem?_eq_some_iff.mp hpart).1
          refine ⟨rfl, yes ?_⟩
          refine ⟨_, rfl, _, rfl, r, r2, _, _, rfl, rfl, (s3.trans b4) _ _ er2, b4 _ _ er3, by rw [List.length_map, List.length_map]; exact small' (by omega), fun d H5 s5 ed => ?_⟩
          have eD5 := s5 _ _ eD
          refine ⟨zs, eD5, ?_, same_put (b4.trans s5) nD _, _, upd_same, ?_⟩
          · have z1 := Paired.length hzs
            rw [List.length_map, List.length_take] at z1
            have z2 := rows_small okt l5
            exact small (by omega)
          · rw [take_snoc hpart, List.map_append]
            have ne : d ≠ D := ne_of ed eD5 (fun z => nomatch z)
            exact paired_app (hzs.keep (tups_put (tups_same s5) eD)) (.cons ⟨d, rfl, by rw [upd_ne ne, ed, List.map_append]⟩ .nil)
        · obtain ⟨b4, zs, eD, hzs⟩ := p
          rw [Paired.length h3, List.take_length] at hzs
          have s34 := s3.trans b4
          have eL3 := s34 _ _ eL
          have ej : ((joinR ((ds.take i).map rows)).take (j + 1)).flatMap (fun row => (rows t).map fun part => row ++ part) = ((joinR ((ds.take i).map rows)).take j).flatMap (fun row => (rows t).map fun part => row ++ part) ++ (rows t).map fun part => row ++ part := by
            rw [take_snoc hrow, List.flatMap_append, List.flatMap_cons, List.flatMap_nil, List.append_nil]
          refine ⟨Lc, D, _, _, rfl, rfl, eL3, eD, ?_, fun p np => ?_⟩
          · have z1 := Paired.length hls
            have z2 := Paired.length hzs
            have z3 := flat_take (fun row => (rows t).map fun part => row ++ part) (joinR ((ds.take i).map rows)) (j + 1)
            rw [← joinR_snoc, ej, List.length_append] at z3
            have z4 := hsm (i + 1)
            rw [take_snoc ht, List.map_append, List.map_cons, List.map_nil] at z4
            exact small' (by omega)
          · have s6 := same_new np (.lst (ls ++ zs))
            refine ⟨⟨_, _, p, _, rfl, (b1.trans (b2.trans s34)).free np, upd_same, ?_⟩, b2.trans (s34.trans s6)⟩
            rw [ej]
            exact paired_app (hls.keep (tups_same (s34.trans s6))) (hzs.keep (tups_same s6))
      · obtain ⟨⟨u, v, Lc, ls, rfl, nLc, eL, hls⟩, b2⟩ := p
        rw [Paired.length hxs, List.take_length, ← joinR_snoc] at hls
        refine ⟨_, rfl, ⟨Lc, _, _, _, _, ls, rfl, nLc, eL, ?_⟩, b1.trans b2⟩
        rw [take_snoc ht, List.map_append, List.map_cons, List.map_nil]
        exact hls
    · obtain ⟨⟨R, y, z, u, v, xs, rfl, nR, eR, hxs⟩, b1⟩ := p
      rw [hlen, List.take_length] at hxs
      exact ⟨_, rfl, q H' R xs b1 nR eR hxs⟩
theorem word_any (b : Bool) : decide (V.str (word b) = V.str "any") = !b := by
  cases b <;> decide
theorem ok_rows (T : Txt w K mg) : ∀ n, FnOk P w K mg base CX0 (2 * n + 2) T.rows.f T.rows.fd ["_law_tree_here"] (spRows n)
  | 0 => none_left fun vs H Q E h => by
    obtain ⟨v, t, _, _, _, h1, _⟩ := h
    exact absurd h1 (Nat.not_lt_zero _)
  | n + 1 => by
    have Gjoined := ok_joined T (ok_rows T n)
    have Gorders := ok_orders (P := P) (base := base) T
    refine T.rows.fn.ok sc_rows (fun vs H Q E h => ?_) (fun cdv A outer s H vs Q E hr h => ?_)
    · obtain ⟨v, t, rfl, _⟩ := h
      rfl
    · obtain ⟨v, t, rfl, ht, ok, hd, l5, q⟩ := h
      refine ⟨_, (pss_cons (ps_if (pt_val (pe_callB call_isi (by rfl) T.nIsi (by decide +kernel) (pa_cons (pv 0) (pa_cons (pe_bltn (v := .ty "int") (by rfl) T.nInt (by decide +kernel) rfl) pa_nil))))
        (pss_one (ps_ret (pe_lst (pa_cons (pe_tup (pa_cons (pv 0) pa_nil)) pa_nil))))
        pss_nil)
        (pss_cons (ps_set (i := 1) sc_rows.nd rfl (Or.inl rfl) (pe_listRg rfl (by rfl) T.nList (prg_1 (by rfl) T.nRange (pe_callB call_len_seq (by rfl) T.nLen (by decide +kernel) (pa_cons (pe_ix (r := rIxT K) ix_tup (pv 0) pe_int (fun _ _ => rfl)) pa_nil)))))
        (pss_cons (ps_set (i := 2) sc_rows.nd rfl (Or.inl rfl) (pe_lst (pa_cons (pe_callTy call_tuple_of (by rfl) T.nTuple (by decide +kernel) (pa_cons (pv 1) pa_nil)) (pa_cons (pe_callTy call_tuple_of (by rfl) T.nTuple (by decide +kernel) (pa_cons (pe_revL (pv 1)) pa_nil)) pa_nil))))
        (pss_cons (ps_if (pt_cmpR op_eq (pe_ix (r := rIxT K) ix_tup (pv 0) pe_int (fun _ _ => rfl)) pe_str (nomark _))
        (pss_one (ps_set (i := 2) sc_rows.nd rfl (Or.inl rfl) (pe_call Gorders (hr.mono (by omega)) (by rfl) T.orders.g T.orders.fn.kp T.orders.b .nil pass0 (pa_cons (pv 1) pa_nil))))
        pss_nil)
        (pss_cons (ps_set (i := 3) sc_rows.nd rfl (Or.inl rfl) (pe_lst pa_nil))
        (pss_cons (ps_for PassesOwn.never rfl (pi_list (pv 2)) (pg_name (i := 4) sc_rows.nd rfl (Or.inl rfl))
        (pss_one (ps_set (i := 3) sc_rows.nd rfl (Or.inl rfl) (pe_op op_cat (pv 3) (pe_call Gjoined (hr.mono (by omega)) (by rfl) T.joined.g T.joined.fn.kp T.joined.b .nil pass0 (pa_cons (pe_lc (own := [("_law_at", 5)]) (g := gName 5) (tt := tYes) rfl sc_rows.nd (pi_tup (pv 4)) (blkOk_by (own := [("_law_at", 5)]) (N := ["_law_tree_here", "_law_places", "_law_orders_here", "_law_rows_here", "_law_order", "_law_at"]) (sc := defScope (top 29)) (by decide +kernel)) (fun _ _ _ _ _ => pg_name (i := 5) sc_rows.nd rfl (Or.inl rfl)) (fun _ _ _ _ _ => pts_nil) (fun _ _ _ _ _ => (pe_ix (r := rIxT K) ix_tup (pe_ix (r := rIxT K) ix_tup (pv 0) pe_int (fun _ _ => rfl)) (pv 5) (fun _ _ => rfl)))) pa_nil))))))
        (pss_one (ps_ret (pv 3))))))))), ?_⟩
      cases t with
      | leaf i =>
        rw [TrAt] at ht
        subst ht
        refine ⟨_, rfl, _, _, _, _, true, rfl, .ty _, .base (.int i), kit_ty (by decide +kernel), true, rfl, iteT ?_⟩
        refine ⟨_, rfl, by show 1 ≤ sizeLine; decide, fun p np => ⟨by show 1 ≤ sizeLine; decide, fun r nr => ?_⟩⟩
        have s1 := same_new np (.tup [.int i])
        have s2 := same_new nr (.lst [.ref p])
        refine q _ r _ (s1.trans s2) (s1.free nr) upd_same ?_
        rw [rows]
        exact .cons ⟨p, rfl, s2 _ _ upd_same⟩ .nil
      | node b cs =>
        have hsm := rows_small ok l5
        have p9 := parts_le _ ok
        rw [TrAt] at ht
        obtain ⟨a, k, us, rfl, ha, hk, hts⟩ := ht
        rw [deep] at hd
        rw [Ok] at ok
        rw [leaves] at l5 p9
        rw [parts] at p9
        have okc := (OkL_iff cs).mp ok.2
        have hlen := hts.len
        have c5 := (deepL_lt cs ok.2).1
        have kid_ok : ∀ d ∈ cs, Ok d ∧ deep d < n ∧ (leaves d).length ≤ 5 := fun d hd' => by
          refine ⟨okc d hd', Nat.lt_of_le_of_lt (deepL_le hd') (by omega), ?_⟩
          obtain ⟨x, y, rfl⟩ := List.append_of_mem hd'
          rw [leavesL_append, leavesL, List.length_append, List.length_append] at l5
          omega
        refine ⟨_, rfl, _, _, _, _, false, rfl, .ty _, .base (.tup ha), kit_ty (by decide +kernel), false, rfl, iteF ?_⟩
        refine ⟨_, rfl, a, _, 1, _, rfl, rfl, SqT.of ha, atI_nat (j := 1) rfl, k, us, rfl, .inr (SqT.of hk), (us.length : Int), rfl, RgOk.of_le (Int.le_refl 0) (by omega) (by decide) (by omega), fun pl npl => ?_⟩
        rw [rgV_eq, hlen]
        have sp := same_new npl (.lst ((rng cs.length).map V.int))
        refine ⟨_, rfl, pl, _, rfl, .inl ⟨SqL.of upd_same, fun t1 nt1 => ?_⟩⟩
        have st1 := same_new nt1 (.tup ((rng cs.length).map V.int))
        refine ⟨_, rfl, pl, _, rfl, SqL.of (st1 _ _ upd_same), fun p2 np2 => ?_⟩
        rw [← List.map_reverse]
        have sp2 := same_new np2 (.lst ((rng cs.length).reverse.map V.int))
        refine ⟨p2, _, rfl, .inl ⟨SqL.of upd_same, fun t2 nt2 => ?_⟩⟩
        have st2 := same_new nt2 (.tup ((rng cs.length).reverse.map V.int))
        refine ⟨by show 2 ≤ sizeLine; decide, fun O nO => ?_⟩
        have sO := same_new nO (.lst [.ref t1, .ref t2])
        have sB := sp2.trans (st2.trans sO)
        have sA := sp.trans (st1.trans sB)
        have ha1 := sA _ _ ha
        have epl := (st1.trans sB) _ _ upd_same
        refine ⟨_, rfl, a, _, 0, _, rfl, rfl, SqT.of ha1, atI_nat (j := 0) rfl, rfl, !b, congrArg V.bl (word_any b), ?_⟩
        refine ite_key (fun σ H' => (∃ O os y z u, σ = [some (.ref a), some (.ref pl), some (.ref O), y, z, u] ∧ H' O = some (.lst os) ∧ TupsAt H' os (placeOrds b cs.length)) ∧ Same H H') (fun σ H' p => ?_) (fun hb key => ?_) (fun hb => ?_)
        · obtain ⟨⟨O, os, y, z, u, rfl, eO, hos⟩, b1⟩ := p
          refine ⟨Nat.zero_le _, fun R0 nR0 => ?_⟩
          have s0 := same_new nR0 (.lst [])
          refine ⟨_, rfl, O, rfl, ⟨_, SqL.of (s0 _ _ eO)⟩, ?_⟩
          refine for_list (K := K) (xs := os) (fun i σ H2 => (∃ R y u rs, σ = [some (.ref a), some (.ref pl), some (.ref O), some (.ref R), y, u] ∧ H R = none ∧ H2 R = some (.lst rs) ∧ TupsAt H2 rs (((placeOrds b cs.length).take i).flatMap fun o => joinR (o.map fun k => (rowsL cs).getD k.toNat []))) ∧ Same H' H2)
            ⟨⟨R0, _, _, [], rfl, b1.free nR0, upd_same, .nil⟩, s0⟩ (fun i σ H2 _ p => SqL.of (p.2 _ _ eO)) (fun i x σ H2 hx p => ?_) (fun σ H2 p => ?_)
          · obtain ⟨⟨R, y, u, rs, rfl, nR, eR, hrs⟩, b2⟩ := p
            obtain ⟨o, ho, r, rfl, er⟩ := paired_get hos hx
            have hom := List.mem_of_getElem? ho
            have hp := places_perm hom
            have ol : o.length = cs.length := by rw [hp.length_eq, rng_len]
            have er2 := b2 _ _ er
            have b12 := b1.trans b2
            refine ⟨_, rfl, _, rfl, r, rfl, ⟨_, SqT.of er2⟩, fun D nD => ?_⟩
            refine lc_tup (K := K) (xs := o.map V.int) (fun j H3 => Same H2 H3 ∧ ∃ vs, H3 D = some (.lst vs) ∧ TrsAt H3 ((o.take j).map (kid cs)) vs)
              ⟨same_new nD _, [], upd_same, by rw [List.take_zero, List.map_nil, TrsAt]⟩ (fun j H3 _ p => SqT.of (p.1 _ _ er2)) (fun j x2 H3 hx2 p => ?_) (fun H3 p => ?_)
            · obtain ⟨b3, vs, eD, hvs⟩ := p
              rw [List.getElem?_map] at hx2
              obtain ⟨e, he, rfl⟩ := Option.map_eq_some_iff.mp hx2
              obtain ⟨f0, f1⟩ := mem_rng.mp (hp.mem_iff.mp (List.mem_of_getElem? he))
              have eu : e.toNat < us.length := by omega
              have b13 := b12.trans b3
              obtain ⟨t, ht, hv⟩ := hts.get (List.getElem?_eq_getElem eu)
              have ek : kid cs e = t := by
                have ee : e = ((e.toNat : Nat) : Int) := by omega
                rw [ee, kid_nat (by omega)]
                rw [List.getElem?_eq_getElem (by omega)] at ht
                exact Option.some.inj ht
              refine ⟨rfl, yes ?_⟩
              refine ⟨_, rfl, a, _, 1, _, rfl, rfl, SqT.of (b13 _ _ ha), atI_nat (j := 1) rfl, _, rfl, k, us, _, _, rfl, rfl, SqT.of (b13 _ _ hk), at_of (j := e.toNat) (by omega) (List.getElem?_eq_getElem eu), vs, eD, ?_, same_put b3 nD _, _, upd_same, ?_⟩
              · have z1 := hvs.len
                rw [List.length_map, List.length_take] at z1
                exact small (by omega)
              · rw [take_snoc he, List.map_append, List.map_cons, List.map_nil, ek]
                have tp := tups_put (o := .lst (vs ++ [us[e.toNat]])) (Tups.refl H3) eD
                exact (hvs.keep tp).snoc ((hv.keep (tups_same b13)).keep tp)
            · obtain ⟨b3, vs, eD, hvs⟩ := p
              rw [List.length_map, List.take_length] at hvs
              have pk : (o.map (kid cs)).Perm cs := by
                have := hp.map (kid cs)
                rw [kids_all] at this
                exact this
              refine ⟨D, vs, o.map (kid cs), rfl, eD, hvs, fun d hd' => kid_ok d (pk.mem_iff.mp hd'), by rw [partsL_perm pk]; omega, fun H4 p4 zs s4 n4 e4 h4 => ?_⟩
              have em : (o.map fun k => (rowsL cs).getD k.toNat []) = (o.map (kid cs)).map rows := by
                rw [List.map_map]
                exact List.map_congr_left fun k hk => rows_kid (hp.mem_iff.mp hk)
              rw [← em] at h4
              have s34 := b3.trans s4
              have eR4 := s34 _ _ eR
              have ej : ((placeOrds b cs.length).take (i + 1)).flatMap (fun o => joinR (o.map fun k => (rowsL cs).getD k.toNat [])) = ((placeOrds b cs.length).take i).flatMap (fun o => joinR (o.map fun k => (rowsL cs).getD k.toNat [])) ++ joinR (o.map fun k => (rowsL cs).getD k.toNat []) := by
                rw [take_snoc ho, List.flatMap_append, List.flatMap_cons, List.flatMap_nil, List.append_nil]
              refine ⟨R, p4, _, _, rfl, rfl, eR4, e4, ?_, fun p np => ?_⟩
              · have z1 := Paired.length hrs
                have z2 := Paired.length h4
                have z3 := flat_take (fun o => joinR (o.map fun k => (rowsL cs).getD k.toNat [])) (placeOrds b cs.length) (i + 1)
                rw [ej, List.length_append] at z3
                rw [rows] at hsm
                exact small' (by omega)
              · have s6 := same_new np (.lst (rs ++ zs))
                refine ⟨⟨p, _, _, _, rfl, (b12.trans s34).free np, upd_same, ?_⟩, b2.trans (s34.trans s6)⟩
                rw [ej]
                exact paired_app (hrs.keep (tups_same (s34.trans s6))) (h4.keep (tups_same s6))
          · obtain ⟨⟨R, y, u, rs, rfl, nR, eR, hrs⟩, b2⟩ := p
            rw [Paired.length hos, List.take_length] at hrs
            refine ⟨_, rfl, q H2 R rs (b1.trans b2) nR eR ?_⟩
            rw [rows]
            exact hrs
        · have hb' : b = false := by cases b <;> simp_all
          subst hb'
          refine ⟨_, rfl, pl, rng cs.length, rfl, epl, by rw [rng_len]; omega, fun H4 p4 xs s4 n4 e4 h4 => ?_⟩
          exact key _ _ ⟨⟨p4, xs, _, _, _, rfl, e4, h4⟩, sA.trans s4⟩
        · have hb' : b = true := by cases b <;> simp_all
          subst hb'
          refine ⟨⟨O, _, _, _, _, rfl, upd_same, .cons ⟨t1, rfl, sB _ _ upd_same⟩ (.cons ⟨t2, rfl, sO _ _ upd_same⟩ .nil)⟩, sA⟩
end
end Kt
/-! ## KtL6 -/
namespace Kt
open PySem L2 PyProof.Rows
theorem srt_one (i : Int) : srt [i] = [i] := (srt_uniq (List.Perm.refl [i]) (List.pairwise_singleton _ _)).symm
theorem last_cat (l : List Int) (h : l ≠ []) : atI (l.map V.int) (-1) = some (.int (l.getLast h)) := by
  have e : l.map V.int = l.dropLast.map V.int ++ [.int (l.getLast h)] := by
    conv => lhs; rw [← List.dropLast_concat_getLast h]
    rw [List.map_append]
    rfl
  rw [e]
  exact atI_last _ _
theorem dec_ints (x y : Int) : decide (V.int x = V.int y) = decide (x = y) := by
  by_cases h : x = y
  · subst h; simp
  · rw [decide_eq_false h, decide_eq_false (fun z => h (V.int.inj z))]
section
variable {P : Program} {w : World} {K : PySem.W.Frag} {mg : Str → Option Value} {base : Heap}
/-! _law_is_together -/
def spTog : Sp := fun vs H Q _ => ∃ (ca ra : Addr) (c r : List Int), vs = [.ref ca, .ref ra] ∧ H ca = some (.tup (c.map V.int)) ∧ H ra = some (.tup (r.map V.int)) ∧ r.length ≤ 100 ∧ ∀ H', Same H H' → Q (.bl (tog c r)) H'
theorem sc_together : FnScope ["_law_chosen", "_law_row", "_law_places", "_law_at"] ["_law_chosen", "_law_row"] (defScope (top 30)) := ⟨rfl, rfl, rfl, by decide +kernel, rfl, by decide +kernel, by decide +kernel⟩
theorem ok_together (T : Txt w K mg) : FnOk P w K mg base CX0 1 T.together.f T.together.fd ["_law_chosen", "_law_row"] spTog := by
  refine T.together.fn.ok sc_together (fun vs H Q E h => ?_) (fun cdv A outer s H vs Q E hr h => ?_)
  · obtain ⟨ca, ra, c, r, rfl, _⟩ := h
    rfl
  · obtain ⟨ca, ra, c, r, rfl, hc, hra, h100, q⟩ := h
    refine ⟨_, (pss_cons (ps_setLc (i := 2) (own := [("_law_at", 3)]) (g := gName 3) rfl sc_together.nd rfl rfl (sw_true rfl rfl rfl (by decide +kernel)) (pi_range1 (by rfl) T.nRange (pa_cons (pe_callB call_len_seq (by rfl) T.nLen (by decide +kernel) (pa_cons (pv 1) pa_nil)) pa_nil)) (blkOk_by (own := [("_law_at", 3)]) (N := ["_law_chosen", "_law_row", "_law_places", "_law_at"]) (sc := defScope (top 30)) (by decide +kernel)) (fun _ _ _ _ _ => pg_name (i := 3) sc_together.nd rfl (Or.inl rfl)) (fun _ _ _ _ _ => (pts_one (pt_cmpR (r := rIn K false) op_in_seq (pe_ix (r := rIxT K) ix_tup (pv 1) (pv 3) (fun _ _ => rfl)) (pv 0) rfl))) (fun _ _ _ _ _ => (pv 3)))
      (pss_one (ps_ret (pe_or (pe_notT (pv 2)) (pe_one (pe_cmpR op_eq (pe_op op_add (pe_op op_sub (pe_ix (r := rIxL K) ix_list (pv 2) (pe_un un_neg pe_int) (fun _ _ => rfl)) (pe_ix (r := rIxL K) ix_list (pv 2) pe_int (fun _ _ => rfl))) pe_int) (pe_callB call_len_seq (by rfl) T.nLen (by decide +kernel) (pa_cons (pv 2) pa_nil)) (nomark _))))))), ?_⟩
    have hl : (r.map V.int).length = r.length := List.length_map _
    refine ⟨_, rfl, ra, _, rfl, .inr (SqT.of hra), _, rfl, by rw [hl]; omega, by rw [hl]; omega, fun D nD => ?_⟩
    rw [Int.toNat_natCast, hl]
    refine lc_range (lo := 0) (n := r.length) (fun i H' => Same H H' ∧ H' D = some (.lst (((rng i).filter fun k => decide (r.getD k.toNat 0 ∈ c)).map V.int))) ⟨same_new nD _, upd_same⟩ (fun i H' hi p => ?_) (fun H' p => ?_)
    · obtain ⟨b1, eD⟩ := p
      have ax : atI (r.map V.int) (0 + (i : Int)) = some (.int r[i]) := at_of (j := i) (by omega) (by rw [List.getElem?_map, List.getElem?_eq_getElem hi]; rfl)
      have eg : r.getD ((i : Int)).toNat 0 = r[i] := by
        rw [Int.toNat_natCast, List.getD_eq_getElem?_getD, List.getElem?_eq_getElem hi]
        rfl
      refine ⟨rfl, _, rfl, _, rfl, ra, _, _, _, rfl, rfl, SqT.of (b1 _ _ hra), ax, _, rfl, ca, _, rfl, .inr (SqT.of (b1 _ _ hc)), rfl, flat_ints _, _, rfl, ?_⟩
      rw [in_ints]
      by_cases m : r[i] ∈ c
      · rw [decide_eq_true m]
        refine iteT ⟨_, rfl, _, eD, ?_, same_put b1 nD _, ?_⟩
        · have z := List.length_filter_le (fun k => decide (r.getD k.toNat 0 ∈ c)) (rng i)
          rw [rng_len] at z
          rw [List.length_map]
          exact small (by omega)
        · rw [upd_same, rng_succ, List.filter_append, List.map_append]
          simp only [List.filter_cons, List.filter_nil, eg, m, decide_true, if_true, List.map_cons, List.map_nil, Int.zero_add]
      · rw [decide_eq_false m]
        refine iteF ⟨b1, ?_⟩
        rw [rng_succ, List.filter_append]
        simp only [List.filter_cons, List.filter_nil, eg, m, decide_false, Bool.false_eq_true, if_false, List.append_nil]
        exact eD
    · obtain ⟨b1, eD⟩ := p
      have et : tog c r = match places c r with
        | [] => true
        | p :: ps => decide ((p :: ps).getLast (List.cons_ne_nil _ _) - p + 1 = ((p :: ps).length : Int)) := rfl
      rw [et] at q
      have ep : ((rng r.length).filter fun k => decide (r.getD k.toNat 0 ∈ c)) = places c r := rfl
      rw [ep] at eD
      generalize places c r = pl at q eD
      refine ⟨_, rfl, _, .inl ⟨_, SqL.of eD, rfl⟩, _, rfl, ?_⟩
      cases pl with
      | nil => exact iteT (q H' b1)
      | cons p ps =>
        refine iteF ?_
        refine ⟨_, rfl, 1, rfl, D, _, -1, _, rfl, rfl, SqL.of eD, last_cat (p :: ps) (List.cons_ne_nil _ _), _, rfl, D, _, 0, _, rfl, rfl, SqL.of eD, atI_nat (j := 0) rfl, _, _, rfl, rfl, _, _, rfl, rfl, _, rfl, D, _, rfl, .inl (SqL.of eD), rfl, ?_⟩
        rw [List.length_map]
        dsimp only
        rw [dec_ints]
        exact q H' b1
/-! _law_content -/
def spLCont (n : Nat) : Sp := fun vs H Q _ => ∃ (v : V) (t : Tr), vs = [v] ∧ TrAt H t v ∧ deep t < n ∧ parts t ≤ 100 ∧ ∀ H' p, Same H H' → H' p = some (.tup ((srt (leaves t)).map V.int)) → Q (.ref p) H'
theorem sc_lcont : FnScope ["_law_tree_here", "_law_found", "_law_child"] ["_law_tree_here"] (defScope (top 31)) := ⟨rfl, rfl, rfl, by decide +kernel, rfl, by decide +kernel, by decide +kernel⟩
theorem ok_lcont (T : Txt w K mg) : ∀ n, FnOk P w K mg base CX0 (n + 1) T.lcont.f T.lcont.fd ["_law_tree_here"] (spLCont n)
  | 0 => none_left fun vs H Q E h => by
    obtain ⟨v, t, _, _, h1, _⟩ := h
    exact absurd h1 (Nat.not_lt_zero _)
  | n + 1 => by
    have Glcont := ok_lcont T n
    refine T.lcont.fn.ok sc_lcont (fun vs H Q E h => ?_) (fun cdv A outer s H vs Q E hr h => ?_)
    · obtain ⟨v, t, rfl, _⟩ := h
      rfl
    · obtain ⟨v, t, rfl, ht, hd, hp, q⟩ := h
      refine ⟨_, (pss_cons (ps_if (pt_val (pe_callB call_isi (by rfl) T.nIsi (by decide +kernel) (pa_cons (pv 0) (pa_cons (pe_bltn (v := .ty "int") (by rfl) T.nInt (by decide +kernel) rfl) pa_nil))))
        (pss_one (ps_ret (pe_tup (pa_cons (pv 0) pa_nil))))
        pss_nil)
        (pss_cons (ps_set (i := 1) sc_lcont.nd rfl (Or.inl rfl) (pe_tup pa_nil))
        (pss_cons (ps_for PassesOwn.never rfl (pi_tup (pe_ix (r := rIxT K) ix_tup (pv 0) pe_int (fun _ _ => rfl))) (pg_name (i := 2) sc_lcont.nd rfl (Or.inl rfl))
        (pss_one (ps_set (i := 1) sc_lcont.nd rfl (Or.inl rfl) (pe_op (r := rCatC K) op_catC (pv 1) (pe_call Glcont (hr.mono (by omega)) (by rfl) T.lcont.g T.lcont.fn.kp T.lcont.b .nil pass0 (pa_cons (pv 2) pa_nil))))))
        (pss_one (ps_ret (pe_callTy call_tuple_of (by rfl) T.nTuple (by decide +kernel) (pa_cons (pe_callB (cr_sortTI hr.units) (by rfl) T.nSorted (by decide +kernel) (pa_cons (pv 1) pa_nil)) pa_nil))))))), ?_⟩
      cases t with
      | leaf i =>
        rw [TrAt] at ht
        subst ht
        refine ⟨_, rfl, _, _, _, _, true, rfl, .ty _, .base (.int i), kit_ty (by decide +kernel), true, rfl, iteT ?_⟩
        refine ⟨_, rfl, by show 1 ≤ sizeLine; decide, fun p np => q _ p (same_new np _) ?_⟩
        rw [leaves, srt_one]
        exact upd_same
      | node b cs =>
        rw [TrAt] at ht
        obtain ⟨a, k, us, rfl, ha, hk, hts⟩ := ht
        rw [deep] at hd
        rw [parts] at hp
        refine ⟨_, rfl, _, _, _, _, false, rfl, .ty _, .base (.tup ha), kit_ty (by decide +kernel), false, rfl, iteF ?_⟩
        refine ⟨Nat.zero_le _, fun F0 nF0 => ?_⟩
        have s0 := same_new nF0 (.tup [])
        refine ⟨_, rfl, a, _, 1, _, rfl, rfl, SqT.of (s0 _ _ ha), atI_nat (j := 1) rfl, k, rfl, ⟨_, SqT.of (s0 _ _ hk)⟩, ?_⟩
        refine for_tup (K := K) (xs := us) (fun i σ H' => (∃ y F fl, σ = [some (.ref a), some (.ref F), y] ∧ H' F = some (.tup (fl.map V.int)) ∧ fl.Perm (leavesL (cs.take i))) ∧ Same H H')
          ⟨⟨_, F0, [], rfl, upd_same, by rw [List.take_zero, leavesL]⟩, s0⟩ (fun i σ H' _ p => SqT.of (p.2 _ _ hk)) (fun i x σ H' hx p => ?_) (fun σ H' p => ?_)
        · obtain ⟨⟨y, F, fl, rfl, eF, pf⟩, b1⟩ := p
          obtain ⟨t, ht, hv⟩ := hts.get hx
          have htm : t ∈ cs := List.mem_of_getElem? ht
          refine ⟨_, rfl, _, rfl, x, t, rfl, hv.keep (tups_same b1), Nat.lt_of_le_of_lt (deepL_le htm) (by omega), Nat.le_trans (mem_parts htm) (by omega), fun H4 p4 s4 e4 => ?_⟩
          refine ⟨F, p4, _, _, rfl, rfl, s4 _ _ eF, e4, ?_, fun d H5 s5 ed => ⟨⟨_, d, fl ++ srt (leaves t), rfl, by rw [ed, List.map_append], ?_⟩, b1.trans (s4.trans s5)⟩⟩
          · have z1 := pf.length_eq
            have z2 := leavesL_take (cs := cs) i
            have z3 := leavesL_parts cs
            have z4 := leaves_parts t
            have z5 := mem_parts htm
            rw [List.length_map, List.length_map, length_srt]
            exact small' (by omega)
          · rw [take_snoc ht, leavesL_snoc]
            exact pf.append (srt_perm _)
        · obtain ⟨⟨y, F, fl, rfl, eF, pf⟩, b1⟩ := p
          rw [hts.len, List.take_length] at pf
          refine ⟨_, rfl, F, fl, rfl, SqT.of eF, fun p1 n1 => ⟨p1, _, rfl, .inl ⟨SqL.of upd_same, fun l nl => ?_⟩⟩⟩
          refine q _ l (b1.trans ((same_new n1 _).trans (same_new nl _))) ?_
          rw [upd_same, srt_eq pf, leaves]
/-! _law_told -/
def spLTold (n : Nat) : Sp := fun vs H Q _ => ∃ (v : V) (t : Tr), vs = [v] ∧ TrAt H t v ∧ deep t < n ∧ deep t < 6 ∧ parts t ≤ 100 ∧ ∀ H' p xs, Same H H' → H p = none → H' p = some (.lst xs) → TupsAt H' xs (lawTold t) → Q (.ref p) H'
theorem lawStep_plain {b : Bool} {prev : Option Tr} {told : List (List Int)} {c : Tr} (h : b = false ∨ prev = none) : lawStep b prev told c = told ++ (if c.isLeaf then [] else [srt (leaves c)]) := by
  unfold lawStep
  rcases h with rfl | rfl
  · simp
  · cases b <;> simp
theorem lawStep_pair {p c : Tr} {told : List (List Int)} : lawStep true (some p) told c = told ++ (if c.isLeaf then [] else [srt (leaves c)]) ++ [srt (leaves p ++ leaves c)] := rfl
theorem lastOr_prev (cs : List Tr) (i : Nat) (h : i ≤ cs.length) : lastOr none (cs.take i) = if i = 0 then none else cs[i - 1]? := by
  cases i with
  | zero => rfl
  | succ i => exact lastOr_take cs none i (by omega)
theorem lawToldL_take (b : Bool) (cs : List Tr) (k : Nat) : (lawToldL b none (cs.take k)).length ≤ 2 * partsL cs := by
  have h1 := lawToldL_len b none (cs.take k)
  have app : ∀ xs ys : List Tr, partsL (xs ++ ys) = partsL xs + partsL ys := by
    intro xs ys
    induction xs with
    | nil => simp [partsL]
    | cons x xs ih => rw [List.cons_append, partsL, partsL, ih]; omega
  have := app (cs.take k) (cs.drop k)
  rw [List.take_append_drop] at this
  omega
theorem sc_ltold : FnScope ["_law_tree_here", "_law_found", "_law_at", "_law_child"] ["_law_tree_here"] (defScope (top 32)) := ⟨rfl, rfl, rfl, by decide +kernel, rfl, by decide +kernel, by decide +kernel⟩
theorem ok_ltold (T : Txt w K mg) : ∀ n, FnOk P w K mg base CX0 (n + 8) T.ltold.f T.ltold.fd ["_law_tree_here"] (spLTold n)
  | 0 => none_left fun vs H Q E h => by
    obtain ⟨v, t, _, _, h1, _⟩ := h
    exact absurd h1 (Nat.not_lt_zero _)
  | n + 1 => by
    have Gltold := ok_ltold T n
    have Glcont := ok_lcont (P := P) (base := base) T 6
    refine T.ltold.fn.ok sc_ltold (fun vs H Q E h => ?_) (fun cdv A outer s H vs Q E hr h => ?_)
    · obtain ⟨v, t, rfl, _⟩ := h
      rfl
    · obtain ⟨v, t, rfl, ht, hd, hd6, hp, q⟩ := h
      refine ⟨_, (pss_cons (ps_if (pt_val (pe_callB call_isi (by rfl) T.nIsi (by decide +kernel) (pa_cons (pv 0) (pa_cons (pe_bltn (v := .ty "int") (by rfl) T.nInt (by decide +kernel) rfl) pa_nil))))
        (pss_one (ps_ret (pe_lst pa_nil)))
        pss_nil)
        (pss_cons (ps_set (i := 1) sc_ltold.nd rfl (Or.inl rfl) (pe_lst pa_nil))
        (pss_cons (ps_for PassesOwn.never rfl (pi_range1 (by rfl) T.nRange (pa_cons (pe_callB call_len_seq (by rfl) T.nLen (by decide +kernel) (pa_cons (pe_ix (r := rIxT K) ix_tup (pv 0) pe_int (fun _ _ => rfl)) pa_nil)) pa_nil)) (pg_name (i := 2) sc_ltold.nd rfl (Or.inl rfl))
        (pss_cons (ps_set (i := 3) sc_ltold.nd rfl (Or.inl rfl) (pe_ix (r := rIxT K) ix_tup (pe_ix (r := rIxT K) ix_tup (pv 0) pe_int (fun _ _ => rfl)) (pv 2) (fun _ _ => rfl)))
        (pss_cons (ps_set (i := 1) sc_ltold.nd rfl (Or.inl rfl) (pe_op op_cat (pv 1) (pe_call Gltold (hr.mono (by omega)) (by rfl) T.ltold.g T.ltold.fn.kp T.ltold.b .nil pass0 (pa_cons (pv 3) pa_nil))))
        (pss_cons (ps_if (pt_not (pt_val (pe_callB call_isi (by rfl) T.nIsi (by decide +kernel) (pa_cons (pv 3) (pa_cons (pe_bltn (v := .ty "int") (by rfl) T.nInt (by decide +kernel) rfl) pa_nil)))))
        (pss_one (ps_expr (pe_bm PySem.F.plainAttrs_list PySem.F.slot_list_append PySem.F.type_list_append mt_append (pv 1) (pa_cons (pe_call Glcont (hr.mono (by omega)) (by rfl) T.lcont.g T.lcont.fn.kp T.lcont.b .nil pass0 (pa_cons (pv 3) pa_nil)) pa_nil))))
        pss_nil)
        (pss_one (ps_if (PW.pt (pw_and (pt_cmpR op_eq (pe_ix (r := rIxT K) ix_tup (pv 0) pe_int (fun _ _ => rfl)) pe_str (nomark _)) (pw_and1 (pt_cmpR op_gt (pv 2) pe_int (nomark _)))))
        (pss_one (ps_expr (pe_bm PySem.F.plainAttrs_list PySem.F.slot_list_append PySem.F.type_list_append mt_append (pv 1) (pa_cons (pe_callTy call_tuple_of (by rfl) T.nTuple (by decide +kernel) (pa_cons (pe_callB (cr_sortTI hr.units) (by rfl) T.nSorted (by decide +kernel) (pa_cons (pe_op (r := rCatC K) op_catC (pe_call Glcont (hr.mono (by omega)) (by rfl) T.lcont.g T.lcont.fn.kp T.lcont.b .nil pass0 (pa_cons (pe_ix (r := rIxT K) ix_tup (pe_ix (r := rIxT K) ix_tup (pv 0) pe_int (fun _ _ => rfl)) (pe_op op_sub (pv 2) pe_int) (fun _ _ => rfl)) pa_nil)) (pe_call Glcont (hr.mono (by omega)) (by rfl) T.lcont.g T.lcont.fn.kp T.lcont.b .nil pass0 (pa_cons (pv 3) pa_nil))) pa_nil)) pa_nil)) pa_nil))))
        pss_nil))))))
        (pss_one (ps_ret (pv 1)))))), ?_⟩
      cases t with
      | leaf i =>
        rw [TrAt] at ht
        subst ht
        refine ⟨_, rfl, _, _, _, _, true, rfl, .ty _, .base (.int i), kit_ty (by decide +kernel), true, rfl, iteT ?_⟩
        refine ⟨Nat.zero_le _, fun p np => q _ p [] (same_new np _) np upd_same ?_⟩
        rw [lawTold]
        exact .nil
      | node b cs =>
        rw [TrAt] at ht
        obtain ⟨a, k, us, rfl, ha, hk, hts⟩ := ht
        rw [deep] at hd hd6
        rw [parts] at hp
        have hlen := hts.len
        have hcp := len_parts cs
        refine ⟨_, rfl, _, _, _, _, false, rfl, .ty _, .base (.tup ha), kit_ty (by decide +kernel), false, rfl, iteF ?_⟩
        refine ⟨Nat.zero_le _, fun F0 nF0 => ?_⟩
        have s0 := same_new nF0 (.lst [])
        refine ⟨_, rfl, a, _, 1, _, rfl, rfl, SqT.of (s0 _ _ ha), atI_nat (j := 1) rfl, k, us, rfl, .inr (SqT.of (s0 _ _ hk)), _, rfl, by omega, by omega, ?_⟩
        rw [Int.toNat_natCast]
        refine for_range (lo := 0) (n := us.length) (fun i σ H' => (∃ F y z xs, σ = [some (.ref a), some (.ref F), y, z] ∧ H F = none ∧ H' F = some (.lst xs) ∧ TupsAt H' xs (lawToldL b none (cs.take i))) ∧ Same H H')
          ⟨⟨F0, _, _, [], rfl, nF0, upd_same, by rw [List.take_zero, lawToldL]; exact .nil⟩, s0⟩ (fun i σ H' hi p => ?_) (fun σ H' p => ?_)
        · obtain ⟨⟨F, y, z, xs, rfl, nF, eF, hxs⟩, b1⟩ := p
          obtain ⟨t, ht, hv⟩ := hts.get (List.getElem?_eq_getElem hi)
          generalize hx : us[i] = x at hv
          have htm : t ∈ cs := List.mem_of_getElem? ht
          have ax : atI us (0 + (i : Int)) = some x := at_of (j := i) (by omega) (by rw [List.getElem?_eq_getElem hi, hx])
          have hv1 := hv.keep (tups_same b1)
          refine ⟨_, rfl, a, _, 1, _, rfl, rfl, SqT.of (b1 _ _ ha), atI_nat (j := 1) rfl, _, rfl, k, us, _, _, rfl, rfl, SqT.of (b1 _ _ hk), ax, ?_⟩
          refine ⟨_, rfl, _, rfl, x, t, rfl, hv1, Nat.lt_of_le_of_lt (deepL_le htm) (by omega), Nat.lt_of_le_of_lt (deepL_le htm) (by omega), Nat.le_trans (mem_parts htm) (by omega), fun H4 p4 zs s4 n4 e4 h4 => ?_⟩
          have z1 := Paired.length hxs
          have z2 := Paired.length h4
          have z3 := lawToldL_take b cs i
          have z4 := lawTold_len t
          have z5 := mem_parts htm
          refine ⟨F, p4, _, _, rfl, rfl, s4 _ _ eF, e4, small' (by omega), fun G nG => ?_⟩
          have sG := same_new nG (.lst (xs ++ zs))
          have b2 : Same H _ := b1.trans (s4.trans sG)
          have nG0 : H G = none := (b1.trans s4).free nG
          have hv2 := hv.keep (tups_same b2)
          have base_ : TupsAt (upd H4 G (.lst (xs ++ zs))) (xs ++ zs) (lawToldL b none (cs.take i) ++ lawTold t) := paired_app (hxs.keep (tups_same (s4.trans sG))) (h4.keep (tups_same sG))
          -- if not isinstance(child, int)
          have kd : ∃ (ty : Value) (r : Bool), TyX K (upd H4 G (.lst (xs ++ zs))) x ty ∧ PySem.W.kitOne K ty (.type "int") = some r ∧ r = t.isLeaf := by
            rcases hv2.kind with ⟨e, j, _, ex⟩ | ⟨e, a', ys, ex, hy⟩
            · subst ex
              exact ⟨_, true, .base (.int j), kit_ty (by decide +kernel), e.symm⟩
            · subst ex
              exact ⟨_, false, .base (.tup hy), kit_ty (by decide +kernel), e.symm⟩
          obtain ⟨ty, r, hty, hkit, rfl⟩ := kd
          refine ⟨_, rfl, _, _, _, _, t.isLeaf, rfl, .ty _, hty, hkit, t.isLeaf, rfl, ?_⟩
          refine ite_key (fun σ H' => (∃ xs, σ = [some (.ref a), some (.ref G), some (.int (0 + (i : Int))), some x] ∧ H' G = some (.lst xs) ∧ TupsAt H' xs (lawToldL b none (cs.take i) ++ lawTold t ++ (if t.isLeaf then [] else [srt (leaves t)]))) ∧ Same H H') (fun σ H5 p => ?_) (fun hlf key => ?_) (fun hlf => ?_)
          · obtain ⟨⟨xs5, rfl, e5, h5⟩, b5⟩ := p
            have el : (if t.isLeaf = true then ([] : List (List Int)) else [srt (leaves t)]).length ≤ 1 := by split <;> simp
            have z6 := Paired.length h5
            rw [List.length_append, List.length_append] at z6
            refine ⟨_, rfl, a, _, 0, _, rfl, rfl, SqT.of (b5 _ _ ha), atI_nat (j := 0) rfl, rfl, b, congrArg V.bl (word_turn b), ?_⟩
            have step : ∀ (hb : b = false ∨ i = 0), TupsAt H5 xs5 (lawToldL b none (cs.take (i + 1))) := fun hb => by
              rw [take_snoc ht, lawToldL_snoc]
              rw [lawStep_plain (by
                rcases hb with hb | hb
                · exact .inl hb
                · subst hb; exact .inr rfl), ← List.append_assoc]
              exact h5
            cases b with
            | false =>
              refine iteF (iteF ?_)
              exact ⟨⟨G, _, _, xs5, rfl, nG0, e5, step (.inl rfl)⟩, b5⟩
            | true =>
              refine iteT ⟨_, rfl, _, _, rfl, rfl, _, rfl, ite2 (fun hpos => ?_) (fun hneg => ?_)⟩
              · have i1 : 0 < i := by
                  have := of_decide_eq_true hpos
                  omega
                have hj : i - 1 < us.length := by omega
                obtain ⟨u, hu, hw⟩ := hts.get (List.getElem?_eq_getElem hj)
                have hum : u ∈ cs := List.mem_of_getElem? hu
                have au : atI us (0 + (i : Int) - 1) = some us[i - 1] := at_of (j := i - 1) (by omega) (List.getElem?_eq_getElem hj)
                refine ⟨.ref G, rfl, .inl ⟨rfl, _, SqL.of e5⟩, _, rfl, a, _, 1, _, rfl, rfl, SqT.of (b5 _ _ ha), atI_nat (j := 1) rfl, _, rfl, _, _, rfl, rfl, k, us, _, _, rfl, rfl, SqT.of (b5 _ _ hk), au, _, u, rfl, hw.keep (tups_same b5), Nat.lt_of_le_of_lt (deepL_le hum) (by omega), Nat.le_trans (mem_parts hum) (by omega), fun H6 p6 s6 e6 => ?_⟩
                refine ⟨_, rfl, x, t, rfl, hv.keep (tups_same (b5.trans s6)), Nat.lt_of_le_of_lt (deepL_le htm) (by omega), Nat.le_trans (mem_parts htm) (by omega), fun H7 p7 s7 e7 => ?_⟩
                have l1 := leaves_parts t
                have l2 := leaves_parts u
                have l3 := mem_parts hum
                refine ⟨p6, p7, _, _, rfl, rfl, s7 _ _ e6, e7, by rw [List.length_map, List.length_map, length_srt, length_srt]; exact small' (by omega), fun d H8 s8 ed => ?_⟩
                refine ⟨d, srt (leaves u) ++ srt (leaves t), rfl, SqT.of (by rw [ed, List.map_append]), fun p9 n9 => ?_⟩
                have e9 : srt (srt (leaves u) ++ srt (leaves t)) = srt (leaves u ++ leaves t) := srt_eq ((srt_perm _).append (srt_perm _))
                rw [e9]
                have s9 := same_new n9 (.lst ((srt (leaves u ++ leaves t)).map V.int))
                refine ⟨p9, _, rfl, .inl ⟨SqL.of upd_same, fun l nl => ?_⟩⟩
                have sl := same_new nl (.tup ((srt (leaves u ++ leaves t)).map V.int))
                have sA := (s6.trans s7).trans (s8.trans (s9.trans sl))
                have eG := sA _ _ e5
                refine ⟨G, xs5, _, rfl, rfl, eG, small (by omega), ⟨G, _, _, _, rfl, nG0, upd_same, ?_⟩, same_put (b5.trans sA) nG0 _⟩
                have ne : l ≠ G := ne_of (o := .tup ((srt (leaves u ++ leaves t)).map V.int)) upd_same eG (fun z => nomatch z)
                have lo : lastOr none (cs.take i) = some u := by
                  rw [lastOr_prev cs i (by omega), if_neg (by omega)]
                  exact hu
                rw [take_snoc ht, lawToldL_snoc]
                rw [lo, lawStep_pair, ← List.append_assoc, ← List.append_assoc]
                exact paired_app (h5.keep (tups_put (tups_same sA) e5)) (.cons ⟨l, rfl, by rw [upd_ne ne, upd_same]⟩ .nil)
              · have i0 : i = 0 := by
                  have : ¬ (0 : Int) < 0 + (i : Int) := fun z => hneg (decide_eq_true z)
                  omega
                exact ⟨⟨G, _, _, xs5, rfl, nG0, e5, step (.inr i0)⟩, b5⟩
          · have hlf' : t.isLeaf = false := by cases h : t.isLeaf <;> simp_all
            refine ⟨.ref G, rfl, .inl ⟨rfl, _, SqL.of upd_same⟩, _, rfl, x, t, rfl, hv2, Nat.lt_of_le_of_lt (deepL_le htm) (by omega), Nat.le_trans (mem_parts htm) (by omega), fun H6 p6 s6 e6 => ?_⟩
            have eG := s6 _ _ upd_same
            refine ⟨G, _, _, rfl, rfl, eG, by rw [List.length_append]; exact small (by omega), key _ _ ⟨⟨_, rfl, upd_same, ?_⟩, same_put (b2.trans s6) nG0 _⟩⟩
            rw [hlf', if_neg Bool.false_ne_true]
            have ne : p6 ≠ G := ne_of e6 eG (fun z => nomatch z)
            exact paired_app (base_.keep (tups_put (tups_same s6) upd_same)) (.cons ⟨p6, rfl, by rw [upd_ne ne]; exact e6⟩ .nil)
          · have hlf' : t.isLeaf = true := by cases h : t.isLeaf <;> simp_all
            refine ⟨⟨_, rfl, upd_same, ?_⟩, b2⟩
            rw [hlf', if_pos rfl, List.append_nil]
            exact base_
        · obtain ⟨⟨F, y, z, xs, rfl, nF, eF, hxs⟩, b1⟩ := p
          rw [hlen, List.take_length] at hxs
          refine ⟨_, rfl, q H' F xs b1 nF eF ?_⟩
          rw [lawTold]
          exact hxs
end
end Kt
/-! ## KtL7 -/
namespace Kt
open PySem L2 PyProof.Rows
theorem any_tups (c : List Int) : ∀ cs : List (List Int), ((cs.map tupD).any fun z => PyData.eqv z (tupD c)) = decide (c ∈ cs)
  | [] => by simp
  | d :: cs => by
    rw [List.map_cons, List.any_cons, any_tups c cs, eqv_tup]
    by_cases h : d = c
    · subst h; simp
    · have h' : ¬ c = d := fun e => h e.symm
      simp [h, h']
theorem eqv_lists (a b : List (List Int)) : PyData.eqv (.list (a.map tupD)) (.list (b.map tupD)) = decide (a = b) := by
  simp only [PyData.eqv]
  exact eqv_tups a b
theorem bt_tups2 {st : Addr} {H H' : Hp} {xs : List V} (s : Bt st H H') (h : H st = some (.lst xs)) : Tups H H' := fun b ys e => s b _ (ne_of e h (fun z => nomatch z)) e
theorem all_map {α : Type} (l : List α) (p : α → Bool) : (l.map p).all id = l.all p := by
  rw [List.all_map]
  rfl
section
variable {P : Program} {w : World} {K : PySem.W.Frag} {mg : Str → Option Value} {base : Heap}
def spLaw (K : PySem.W.Frag) : Sp := fun vs H Q _ => ∃ (a : Addr) (ns : List Int), vs = [.ref a] ∧ SqL K H a (ns.map V.int) ∧ ns.length ≤ 63 ∧ ∀ H', Q (.bl true) H'
theorem sc_law : FnScope ["_law_script", "_law_stream_here", "_law_size", "_law_tree_here", "_law_due", "_law_chosen", "_law_told_here", "_law_rows_here", "_law_row"] ["_law_script"] (defScope (top 33)) := ⟨rfl, rfl, rfl, by decide +kernel, rfl, by decide +kernel, by decide +kernel⟩
theorem ok_law (T : Txt w K mg) : FnOk P w K mg base CX0 20 T.law.f T.law.fd ["_law_script"] (spLaw K) := by
  have Gstream := ok_stream (P := P) (base := base) T
  have Gnext := ok_next (P := P) (base := base) T
  have Gtree := ok_tree (P := P) (base := base) T
  have Gltold := ok_ltold (P := P) (base := base) T 6
  have GtoldSets := ok_toldSets (P := P) (base := base) T
  have Gfits := ok_fits (P := P) (base := base) T
  have Gorders := ok_orders (P := P) (base := base) T
  have Gtogether := ok_together (P := P) (base := base) T
  have Grows := ok_rows (P := P) (base := base) T 6
  refine T.law.fn.ok sc_law (fun vs H Q E h => ?_) (fun cdv A outer s H vs Q E hr h => ?_)
  · obtain ⟨a, ns, rfl, _⟩ := h
    rfl
  · obtain ⟨a, ns, rfl, hS, h63, q⟩ := h
    have hu65 : (A.deeper (envOfC "law" (defScope (top 33)) s.heap.objs.size T.law.f cdv)).units + 65 < cLine := by
      have := hr.un
      omega
    refine ⟨_, (pss_cons (ps_set (i := 1) sc_law.nd rfl (Or.inl rfl) (pe_call Gstream (hr.mono (by omega)) (by rfl) T.stream.g T.stream.fn.kp T.stream.b .nil pass0 (pa_cons (pv 0) pa_nil)))
      (pss_cons (ps_set (i := 2) sc_law.nd rfl (Or.inl rfl) (pe_op op_add pe_int (pe_call Gnext (hr.mono (by omega)) (by rfl) T.next.g T.next.fn.kp T.next.b .nil pass0 (pa_cons (pv 1) (pa_cons pe_int pa_nil)))))
      (pss_cons (ps_set (i := 3) sc_law.nd rfl (Or.inr rfl) (pe_call Gtree (hr.mono (by omega)) (by rfl) T.tree.g T.tree.fn.kp T.tree.b .nil pass0 (pa_cons (pv 1) (pa_cons (pv 2) pa_nil))))
      (pss_cons (ps_set (i := 4) sc_law.nd rfl (Or.inl rfl) (pe_lst pa_nil))
      (pss_cons (ps_for PassesOwn.never rfl (pi_list (pe_callB (cr_sortTups hr.units) (by rfl) T.nSorted (by decide +kernel) (pa_cons (pe_call Gltold (hr.mono (by omega)) (by rfl) T.ltold.g T.ltold.fn.kp T.ltold.b .nil pass0 (pa_cons (pv 3) pa_nil)) pa_nil))) (pg_name (i := 5) sc_law.nd rfl (Or.inl rfl))
      (pss_one (ps_if (pt_cmpR (op_notInD hu65) (pv 5) (pv 4) rfl)
      (pss_one (ps_expr (pe_bm PySem.F.plainAttrs_list PySem.F.slot_list_append PySem.F.type_list_append mt_append (pv 4) (pa_cons (pv 5) pa_nil))))
      pss_nil)))
      (pss_cons (ps_set (i := 6) sc_law.nd rfl (Or.inl rfl) (pe_call GtoldSets (hr.mono (by omega)) (by rfl) T.toldSets.g T.toldSets.fn.kp T.toldSets.b .nil pass0 (pa_cons (pv 3) pa_nil)))
      (pss_cons (ps_if (PW.pt (pw_or (pt_not (pt_val (pe_callB call_isi (by rfl) T.nIsi (by decide +kernel) (pa_cons (pv 6) (pa_cons (pe_bltn (v := .ty "list") (by rfl) T.nList (by decide +kernel) rfl) pa_nil))))) (pw_or1 (pt_cmpR (op_neD hr.units) (pv 6) (pv 4) (nomark _)))))
      (pss_one (ps_ret pe_bl))
      pss_nil)
      (pss_cons (ps_expr (pe_bm PySem.F.plainAttrs_list PySem.F.slot_list_append PySem.F.type_list_append mt_append (pv 6) (pa_cons (pe_tup pa_nil) pa_nil)))
      (pss_cons (ps_if (PW.pt (pw_or (pt_cmpR (op_neD hr.units) (pe_call GtoldSets (hr.mono (by omega)) (by rfl) T.toldSets.g T.toldSets.fn.kp T.toldSets.b .nil pass0 (pa_cons (pv 3) pa_nil)) (pv 4) (nomark _)) (pw_or1 (pt_not (pt_val (pe_callB (cr_all rfl) (by rfl) T.nAll (by decide +kernel) (pa_cons (pe_lc (own := [("_law_chosen", 5)]) (g := gName 5) (tt := tYes) rfl sc_law.nd (pi_list (pv 4)) (blkOk_by (own := [("_law_chosen", 5)]) (N := ["_law_script", "_law_stream_here", "_law_size", "_law_tree_here", "_law_due", "_law_chosen", "_law_told_here", "_law_rows_here", "_law_row"]) (sc := defScope (top 33)) (by decide +kernel)) (fun _ _ _ _ _ => pg_name (i := 5) sc_law.nd rfl (Or.inl rfl)) (fun _ _ _ _ _ => pts_nil) (fun _ _ _ _ _ => (pe_cmpR op_isBl (pe_call Gfits (hr.mono (by omega)) (by rfl) T.fits.g T.fits.fn.kp T.fits.b .nil pass0 (pa_cons (pv 3) (pa_cons (pv 5) pa_nil))) pe_bl (nomark _)))) pa_nil)))))))
      (pss_one (ps_ret pe_bl))
      pss_nil)
      (pss_cons (ps_set (i := 7) sc_law.nd rfl (Or.inl rfl) (pe_lst pa_nil))
      (pss_cons (ps_for PassesOwn.never rfl (pi_list (pe_call Gorders (hr.mono (by omega)) (by rfl) T.orders.g T.orders.fn.kp T.orders.b .nil pass0 (pa_cons (pe_listRg rfl (by rfl) T.nList (prg_1 (by rfl) T.nRange (pv 2))) pa_nil))) (pg_name (i := 8) sc_law.nd rfl (Or.inr rfl))
      (pss_one (ps_if (pt_val (pe_callB (cr_all rfl) (by rfl) T.nAll (by decide +kernel) (pa_cons (pe_lc (own := [("_law_chosen", 5)]) (g := gName 5) (tt := tYes) rfl sc_law.nd (pi_list (pv 4)) (blkOk_by (own := [("_law_chosen", 5)]) (N := ["_law_script", "_law_stream_here", "_law_size", "_law_tree_here", "_law_due", "_law_chosen", "_law_told_here", "_law_rows_here", "_law_row"]) (sc := defScope (top 33)) (by decide +kernel)) (fun _ _ _ _ _ => pg_name (i := 5) sc_law.nd rfl (Or.inl rfl)) (fun _ _ _ _ _ => pts_nil) (fun _ _ _ _ _ => (pe_call Gtogether (hr.mono (by omega)) (by rfl) T.together.g T.together.fn.kp T.together.b .nil pass0 (pa_cons (pv 5) (pa_cons (pv 8) pa_nil))))) pa_nil)))
      (pss_one (ps_expr (pe_bm PySem.F.plainAttrs_list PySem.F.slot_list_append PySem.F.type_list_append mt_append (pv 7) (pa_cons (pv 8) pa_nil))))
      pss_nil)))
      (pss_one (ps_ret (pe_cmpR (op_eqD hr.units) (pv 7) (pe_callB (cr_sortTups hr.units) (by rfl) T.nSorted (by decide +kernel) (pa_cons (pe_call Grows (hr.mono (by omega)) (by rfl) T.rows.g T.rows.fn.kp T.rows.b .nil pass0 (pa_cons (pv 3) pa_nil)) pa_nil)) (nomark _))))))))))))))), ?_⟩
    refine ⟨_, rfl, a, ns, rfl, hS, fun H1 st sc s1 hst => ?_⟩
    refine ⟨_, rfl, st, sc, 5, rfl, hst, by decide, by decide, fun H2 d b2 hst2 d0 d1 => ⟨_, _, rfl, rfl, ?_⟩⟩
    dsimp only
    obtain ⟨n, hn⟩ : ∃ n : Nat, 1 + d = (n : Int) := ⟨(1 + d).toNat, by omega⟩
    rw [hn]
    refine ⟨_, rfl, _, rfl, st, sc, n, rfl, hst2, by omega, by omega, fun H3 v t b3 hst3 ht3 ok pl => ?_⟩
    have n5 : n ≤ 5 := by omega
    have ll : (leaves t).length = n := by rw [pl.length_eq, rng_len]
    have dt : deep t < 6 := by
      have := deep_lt t ok
      omega
    have pt : parts t ≤ 100 := by
      have := parts_le t ok
      omega
    refine ⟨Nat.zero_le _, fun Du nDu => ?_⟩
    have s4 := same_new nDu (.lst [])
    refine ⟨_, rfl, v, t, rfl, ht3.keep (tups_same s4), dt, dt, pt, fun H5 p5 xs5 s5 n5' e5 h5 => ?_⟩
    refine ⟨p5, xs5, lawTold t, rfl, SqL.of e5, h5, fun c hc => told_ne (mem_lawTold.mp hc) ok, fun ys p6 hy n6 => ?_⟩
    have s6 := same_new n6 (.lst ys)
    have eDu6 := (s5.trans s6) _ _ upd_same
    have p6Du : p6 ≠ Du := (ne_of_none (s5 _ _ upd_same) n6).symm
    have hy6 := hy.keep (tups_same s6)
    have ht6 := ht3.keep (tups_same (s4.trans (s5.trans s6)))
    have ltl := lawTold_len t
    refine ⟨p6, rfl, ⟨_, SqL.of upd_same⟩, ?_⟩
    refine for_list (K := K) (xs := ys) (fun i σ H' => (∃ y x z u, σ = [some (.ref a), some (.ref st), some (.int (n : Int)), some v, some (.ref Du), y, x, z, u]) ∧ Bt Du (upd H5 p6 (.lst ys)) H' ∧ ∃ ds, H' Du = some (.lst ds) ∧ TupsAt H' ds (dd ((srtT (lawTold t)).take i)))
      ⟨⟨_, _, _, _, rfl⟩, Bt.refl _ _, [], eDu6, .nil⟩ (fun i σ H' _ p => SqL.of (p.2.1 _ _ p6Du upd_same)) (fun i x σ H' hx p => ?_) (fun σ H7 p => ?_)
    · obtain ⟨⟨y, x2, z, u, rfl⟩, b1, ds, eD, hds⟩ := p
      obtain ⟨c, hc, r, rfl, er⟩ := paired_get hy6 hx
      have er1 := bt_tups2 b1 eDu6 _ _ er
      have tk := List.length_take (i := i) (l := srtT (lawTold t))
      have z1 := dd_len ((srtT (lawTold t)).take i)
      have z2 := (srtT_perm (lawTold t)).length_eq
      have z3 := Paired.length hds
      refine ⟨_, rfl, _, rfl, tupD c, _, dp_tup ⟨r, rfl, er1⟩, .lst (SqL.of eD) (dp_tups hds), tupD_shaped c, tups_shaped _, _, rfl, ?_⟩
      rw [any_tups]
      by_cases m : c ∈ dd ((srtT (lawTold t)).take i)
      · rw [decide_eq_true m]
        refine iteF ⟨⟨_, _, _, _, rfl⟩, b1, ds, eD, ?_⟩
        rw [take_snoc hc, dd_snoc, if_pos m]
        exact hds
      · rw [decide_eq_false m]
        refine iteT ⟨.ref Du, rfl, .inl ⟨rfl, _, SqL.of eD⟩, _, rfl, Du, ds, _, rfl, rfl, eD, small (by omega), ⟨_, _, _, _, rfl⟩, bt_st b1 _, _, upd_same, ?_⟩
        rw [take_snoc hc, dd_snoc, if_neg m]
        have ne : r ≠ Du := ne_of er1 eD (fun z => nomatch z)
        exact paired_app (hds.keep (tups_put (Tups.refl _) eD)) (.cons ⟨r, rfl, by rw [upd_ne ne]; exact er1⟩ .nil)
    · obtain ⟨⟨y, x2, z, u, rfl⟩, b1, ds, eD, hds⟩ := p
      rw [Paired.length hy6, List.take_length, due_eq] at hds
      have ht7 := ht6.keep (bt_tups2 b1 eDu6)
      have zs := Paired.length hds
      have zl : (sets t).length ≤ 200 := by
        unfold sets
        rw [(srtT_perm _).length_eq]
        have h1 := dd_len (toldBy t)
        have h2 := toldBy_len t
        omega
      refine ⟨_, rfl, v, t, n, rfl, ht7, ok, dt, pt, by omega, pl, fun H8 p8 xs8 s8 n8 e8 h8 => ?_⟩
      refine ⟨_, rfl, _, _, _, _, true, rfl, .ty _, .base (.lst e8), kit_ty (by decide +kernel), true, rfl, iteF ?_⟩
      refine ⟨_, rfl, _, rfl, _, _, .lst (SqL.of e8) (dp_tups h8), .lst (SqL.of (s8 _ _ eD)) (dp_tups (hds.keep (tups_same s8))), tups_shaped _, tups_shaped _, _, rfl, ?_⟩
      rw [eqv_lists, decide_eq_true rfl]
      refine iteF ?_
      refine ⟨.ref p8, rfl, .inl ⟨rfl, _, SqL.of e8⟩, Nat.zero_le _, fun e0 ne0 => ?_⟩
      have se := same_new ne0 (.tup [])
      have z8 := Paired.length h8
      refine ⟨p8, xs8, _, rfl, rfl, se _ _ e8, small (by omega), ?_⟩
      have s9 : Same H7 (upd (upd H8 e0 (.tup [])) p8 (.lst (xs8 ++ [.ref e0]))) := same_put (s8.trans se) n8 _
      refine ⟨_, rfl, v, t, n, rfl, ht7.keep (tups_same s9), ok, dt, pt, by omega, pl, fun H10 p10 xs10 s10 n10 e10 h10 => ?_⟩
      have s10' := s9.trans s10
      refine ⟨_, rfl, _, _, .lst (SqL.of e10) (dp_tups h10), .lst (SqL.of (s10' _ _ eD)) (dp_tups (hds.keep (tups_same s10'))), tups_shaped _, tups_shaped _, _, rfl, ?_⟩
      rw [eqv_lists, decide_eq_true rfl]
      refine iteF ?_
      refine ⟨_, rfl, Du, rfl, ⟨_, SqL.of (s10' _ _ eD)⟩, fun D nD => ?_⟩
      refine lc_list (K := K) (xs := ds) (fun i H' => Same H10 H' ∧ H' D = some (.lst (List.replicate i (V.bl true)))) ⟨same_new nD _, upd_same⟩ (fun i H' _ p => SqL.of (p.1 _ _ (s10' _ _ eD))) (fun i x H' hx p => ?_) (fun H11 p => ?_)
      · obtain ⟨b5, eL⟩ := p
        obtain ⟨c, hc, r, rfl, er⟩ := paired_get hds hx
        have bb := s10'.trans b5
        have td := mem_sets.mp (List.mem_of_getElem? hc)
        have hi : i < (sets t).length := (List.getElem?_eq_some_iff.mp hc).1
        refine ⟨rfl, yes ?_⟩
        refine ⟨_, rfl, _, rfl, v, t, n, r, c, rfl, ht7.keep (tups_same bb), ok, dt, pt, by omega, pl, bb _ _ er, td, fun H12 s12 => ?_⟩
        refine ⟨true, true, rfl, rfl, _, s12 _ _ eL, by rw [List.length_replicate]; exact small (by omega), same_put (b5.trans s12) nD _, ?_⟩
        rw [upd_same, decide_eq_true rfl, rep_snoc]
      · obtain ⟨b5, eL⟩ := p
        refine ⟨D, List.replicate ds.length true, rfl, SqL.of (by rw [rep_map]; exact eL), _, rfl, ?_⟩
        rw [rep_all]
        refine iteF ?_
        have s11 := s10'.trans b5
        refine ⟨Nat.zero_le _, fun Rh nRh => ?_⟩
        have s12 := same_new nRh (.lst [])
        refine ⟨_, rfl, n, rfl, RgOk.of_le (Int.le_refl 0) (by omega) (by decide) (by omega), fun p13 n13 => ?_⟩
        have s13 := same_new n13 (.lst (rgV 0 (n : Int)))
        refine ⟨p13, rng n, rfl, by rw [upd_same, rgV_eq], by rw [rng_len]; exact n5, fun H14 p14 xs14 s14 n14 e14 h14 => ?_⟩
        have sR := s13.trans s14
        have eR14 := sR _ _ upd_same
        have sAll := s11.trans (s12.trans sR)
        have p14R : p14 ≠ Rh := (ne_of_none (s13 _ _ upd_same) n14).symm
        have DuR : Du ≠ Rh := ne_of_none (s11 _ _ eD) nRh
        refine ⟨p14, rfl, ⟨_, SqL.of e14⟩, ?_⟩
        refine for_list (K := K) (xs := xs14) (fun i σ H' => (∃ y x u, σ = [some (.ref a), some (.ref st), some (.int (n : Int)), some v, some (.ref Du), y, x, some (.ref Rh), u]) ∧ Bt Rh H14 H' ∧ ∃ rs, H' Rh = some (.lst rs) ∧ TupsAt H' rs (((orders (rng n)).take i).filter fun r => (sets t).all fun c => tog c r))
          ⟨⟨_, _, _, rfl⟩, Bt.refl _ _, [], eR14, .nil⟩ (fun i σ H' _ p => SqL.of (p.2.1 _ _ p14R e14)) (fun i x σ H' hx p => ?_) (fun σ H' p => ?_)
        · obtain ⟨⟨y, x2, u, rfl⟩, b6, rs, eR, hrs⟩ := p
          obtain ⟨row, hrow, r, rfl, er⟩ := paired_get h14 hx
          have tp := bt_tups2 b6 eR14
          have er1 := tp _ _ er
          have eD1 := b6 _ _ DuR (sAll _ _ eD)
          have hds1 := (hds.keep (tups_same sAll)).keep tp
          have rl : row.length ≤ 5 := by
            have := (mem_orders.mp (List.mem_of_getElem? hrow)).length_eq
            rw [rng_len] at this
            omega
          refine ⟨_, rfl, Du, rfl, ⟨_, SqL.of eD1⟩, fun D2 nD2 => ?_⟩
          refine lc_list (K := K) (xs := ds) (fun j H2 => Same H' H2 ∧ H2 D2 = some (.lst ((((sets t).take j).map fun c => tog c row).map V.bl))) ⟨same_new nD2 _, upd_same⟩ (fun j H2 _ p => SqL.of (p.1 _ _ eD1)) (fun j x3 H2 hx3 p => ?_) (fun H2 p => ?_)
          · obtain ⟨b7, eL⟩ := p
            obtain ⟨c, hc, r3, rfl, er3⟩ := paired_get hds1 hx3
            have hj : j < (sets t).length := (List.getElem?_eq_some_iff.mp hc).1
            refine ⟨rfl, yes ?_⟩
            refine ⟨_, rfl, _, rfl, r3, r, c, row, rfl, b7 _ _ er3, b7 _ _ er1, by omega, fun H9 s9' => ?_⟩
            refine ⟨_, s9' _ _ eL, ?_, same_put (b7.trans s9') nD2 _, ?_⟩
            · rw [List.length_map, List.length_map, List.length_take]
              exact small (by omega)
            · rw [upd_same, take_snoc hc, List.map_append, List.map_append]
              rfl
          · obtain ⟨b7, eL⟩ := p
            rw [zs, List.take_length] at eL
            refine ⟨D2, _, rfl, SqL.of eL, _, rfl, ?_⟩
            rw [all_map]
            have eR2 := b7 _ _ eR
            have D2R : D2 ≠ Rh := (ne_of_none eR nD2).symm
            have ofl : (orders (rng n)).length ≤ 5 ^ n := by
              have := ordN_le (items := rng n) (by rw [rng_len]; exact n5) n
              unfold orders
              rw [rng_len]
              exact this
            have pw : 5 ^ n ≤ 5 ^ 5 := Nat.pow_le_pow_right (by decide) n5
            have zr := Paired.length hrs
            have zf := List.length_filter_le (fun r => (sets t).all fun c => tog c r) ((orders (rng n)).take i)
            rw [List.length_take] at zf
            refine ite2 (fun e => ?_) (fun e => ?_)
            · refine ⟨.ref Rh, rfl, .inl ⟨rfl, _, SqL.of eR2⟩, _, rfl, Rh, rs, _, rfl, rfl, eR2, small (by omega), ⟨_, _, _, rfl⟩, bt_st (b6.trans (bt_same b7)) _, _, upd_same, ?_⟩
              rw [take_snoc hrow, List.filter_append]
              simp only [List.filter_cons, List.filter_nil, e, if_true]
              have er2 := b7 _ _ er1
              have ne : r ≠ Rh := ne_of er2 eR2 (fun z => nomatch z)
              exact paired_app (hrs.keep (tups_put (tups_same b7) eR)) (.cons ⟨r, rfl, by rw [upd_ne ne]; exact er2⟩ .nil)
            · refine ⟨⟨_, _, _, rfl⟩, b6.trans (bt_same b7), rs, eR2, ?_⟩
              rw [take_snoc hrow, List.filter_append]
              simp only [List.filter_cons, List.filter_nil, e, Bool.false_eq_true, if_false, List.append_nil]
              exact hrs.keep (tups_same b7)
        · obtain ⟨⟨y, x2, u, rfl⟩, b6, rs, eR, hrs⟩ := p
          rw [Paired.length h14, List.take_length, rows_law ok pl] at hrs
          have htE := (ht7.keep (tups_same sAll)).keep (bt_tups2 b6 eR14)
          refine ⟨_, rfl, _, rfl, v, t, rfl, htE, ok, dt, by omega, fun H20 p20 xs20 s20 n20 e20 h20 => ?_⟩
          refine ⟨p20, xs20, rows t, rfl, SqL.of e20, h20, fun r hr' => ?_, fun ys2 p21 hy2 n21 => ?_⟩
          · intro z
            have := row_size hr'
            rw [z, ll] at this
            simp at this
            omega
          have s21 := same_new n21 (.lst ys2)
          have s2021 := s20.trans s21
          refine ⟨_, _, .lst (SqL.of (s2021 _ _ eR)) (dp_tups (hrs.keep (tups_same s2021))), .lst (SqL.of upd_same) (dp_tups (hy2.keep (tups_same s21))), tups_shaped _, tups_shaped _, ?_⟩
          rw [eqv_lists, decide_eq_true rfl]
          exact q _
end
end Kt
/-! ## KtEnd -/
namespace Kt
open PySem L2 PyProof.Rows
/-- what stands under a def's name at the top, by its place and its name -/
def stood (i : Nat) (x : Str) (kv dc pm : Value) (an : Option Addr) (cd ct : Value) : FuncData := PySem.W.fnOf x x (defArgs (top i)) (defBody (top i)) (defScope (top i)) .none kv dc pm an cd ct
section
variable {w : World} {K : PySem.W.Frag} {h : Heap} {mg : Str → Option Value}
def mk_isInt (X : K.In h) (G : h.Ns mainGlobals mg) {f : Addr} {od an : Option Addr} {sl : Array (Option Value)} {oc kv dc pm cd ct : Value} (a : PySem.W.nsIn K mainGlobals "is_integer" = some (some (.ref f))) (l : K.lookup f = some ⟨oc, od, .func (stood 6 "is_integer" kv dc pm an cd ct), sl⟩) (c : PySem.W.codeIn K cd "is_integer" = true) (k : PySem.W.keepIn K (.ref f) = true) : Df K mg "is_integer" 6 ["value"] :=
  { f := f, fd := _, fn := fun_mk (st := top 6) l c k, g := PySem.W.mg_of X G a, b := (fun_mk (st := top 6) l c k).binds (ps := ["value"]) fun _ _ _ _ _ _ us hl => match us, hl with | [_], _ => rfl }
def mk_isPart (X : K.In h) (G : h.Ns mainGlobals mg) {f : Addr} {od an : Option Addr} {sl : Array (Option Value)} {oc kv dc pm cd ct : Value} (a : PySem.W.nsIn K mainGlobals "is_part" = some (some (.ref f))) (l : K.lookup f = some ⟨oc, od, .func (stood 7 "is_part" kv dc pm an cd ct), sl⟩) (c : PySem.W.codeIn K cd "is_part" = true) (k : PySem.W.keepIn K (.ref f) = true) : Df K mg "is_part" 7 ["value"] :=
  { f := f, fd := _, fn := fun_mk (st := top 7) l c k, g := PySem.W.mg_of X G a, b := (fun_mk (st := top 7) l c k).binds (ps := ["value"]) fun _ _ _ _ _ _ us hl => match us, hl with | [_], _ => rfl }
def mk_elems (X : K.In h) (G : h.Ns mainGlobals mg) {f : Addr} {od an : Option Addr} {sl : Array (Option Value)} {oc kv dc pm cd ct : Value} (a : PySem.W.nsIn K mainGlobals "elements_of" = some (some (.ref f))) (l : K.lookup f = some ⟨oc, od, .func (stood 8 "elements_of" kv dc pm an cd ct), sl⟩) (c : PySem.W.codeIn K cd "elements_of" = true) (k : PySem.W.keepIn K (.ref f) = true) : Df K mg "elements_of" 8 ["tree"] :=
  { f := f, fd := _, fn := fun_mk (st := top 8) l c k, g := PySem.W.mg_of X G a, b := (fun_mk (st := top 8) l c k).binds (ps := ["tree"]) fun _ _ _ _ _ _ us hl => match us, hl with | [_], _ => rfl }
def mk_cont (X : K.In h) (G : h.Ns mainGlobals mg) {f : Addr} {od an : Option Addr} {sl : Array (Option Value)} {oc kv dc pm cd ct : Value} (a : PySem.W.nsIn K mainGlobals "content" = some (some (.ref f))) (l : K.lookup f = some ⟨oc, od, .func (stood 9 "content" kv dc pm an cd ct), sl⟩) (c : PySem.W.codeIn K cd "content" = true) (k : PySem.W.keepIn K (.ref f) = true) : Df K mg "content" 9 ["tree"] :=
  { f := f, fd := _, fn := fun_mk (st := top 9) l c k, g := PySem.W.mg_of X G a, b := (fun_mk (st := top 9) l c k).binds (ps := ["tree"]) fun _ _ _ _ _ _ us hl => match us, hl with | [_], _ => rfl }
def mk_isTree (X : K.In h) (G : h.Ns mainGlobals mg) {f : Addr} {od an : Option Addr} {sl : Array (Option Value)} {oc kv dc pm cd ct : Value} (a : PySem.W.nsIn K mainGlobals "is_tree_for" = some (some (.ref f))) (l : K.lookup f = some ⟨oc, od, .func (stood 10 "is_tree_for" kv dc pm an cd ct), sl⟩) (c : PySem.W.codeIn K cd "is_tree_for" = true) (k : PySem.W.keepIn K (.ref f) = true) : Df K mg "is_tree_for" 10 ["value", "size"] :=
  { f := f, fd := _, fn := fun_mk (st := top 10) l c k, g := PySem.W.mg_of X G a, b := (fun_mk (st := top 10) l c k).binds (ps := ["value", "size"]) fun _ _ _ _ _ _ us hl => match us, hl with | [_, _], _ => rfl }
def mk_chkTree (X : K.In h) (G : h.Ns mainGlobals mg) {f : Addr} {od an : Option Addr} {sl : Array (Option Value)} {oc kv dc pm cd ct : Value} (a : PySem.W.nsIn K mainGlobals "check_tree" = some (some (.ref f))) (l : K.lookup f = some ⟨oc, od, .func (stood 11 "check_tree" kv dc pm an cd ct), sl⟩) (c : PySem.W.codeIn K cd "check_tree" = true) (k : PySem.W.keepIn K (.ref f) = true) : Df K mg "check_tree" 11 ["tree"] :=
  { f := f, fd := _, fn := fun_mk (st := top 11) l c k, g := PySem.W.mg_of X G a, b := (fun_mk (st := top 11) l c k).binds (ps := ["tree"]) fun _ _ _ _ _ _ us hl => match us, hl with | [_], _ => rfl }
def mk_isChosen (X : K.In h) (G : h.Ns mainGlobals mg) {f : Addr} {od an : Option Addr} {sl : Array (Option Value)} {oc kv dc pm cd ct : Value} (a : PySem.W.nsIn K mainGlobals "is_chosen" = some (some (.ref f))) (l : K.lookup f = some ⟨oc, od, .func (stood 12 "is_chosen" kv dc pm an cd ct), sl⟩) (c : PySem.W.codeIn K cd "is_chosen" = true) (k : PySem.W.keepIn K (.ref f) = true) : Df K mg "is_chosen" 12 ["value", "size"] :=
  { f := f, fd := _, fn := fun_mk (st := top 12) l c k, g := PySem.W.mg_of X G a, b := (fun_mk (st := top 12) l c k).binds (ps := ["value", "size"]) fun _ _ _ _ _ _ us hl => match us, hl with | [_, _], _ => rfl }
def mk_chkChosen (X : K.In h) (G : h.Ns mainGlobals mg) {f : Addr} {od an : Option Addr} {sl : Array (Option Value)} {oc kv dc pm cd ct : Value} (a : PySem.W.nsIn K mainGlobals "check_chosen" = some (some (.ref f))) (l : K.lookup f = some ⟨oc, od, .func (stood 13 "check_chosen" kv dc pm an cd ct), sl⟩) (c : PySem.W.codeIn K cd "check_chosen" = true) (k : PySem.W.keepIn K (.ref f) = true) : Df K mg "check_chosen" 13 ["tree", "chosen"] :=
  { f := f, fd := _, fn := fun_mk (st := top 13) l c k, g := PySem.W.mg_of X G a, b := (fun_mk (st := top 13) l c k).binds (ps := ["tree", "chosen"]) fun _ _ _ _ _ _ us hl => match us, hl with | [_, _], _ => rfl }
def mk_neigh (X : K.In h) (G : h.Ns mainGlobals mg) {f : Addr} {od an : Option Addr} {sl : Array (Option Value)} {oc kv dc pm cd ct : Value} (a : PySem.W.nsIn K mainGlobals "neighbouring" = some (some (.ref f))) (l : K.lookup f = some ⟨oc, od, .func (stood 14 "neighbouring" kv dc pm an cd ct), sl⟩) (c : PySem.W.codeIn K cd "neighbouring" = true) (k : PySem.W.keepIn K (.ref f) = true) : Df K mg "neighbouring" 14 ["parts", "chosen"] :=
  { f := f, fd := _, fn := fun_mk (st := top 14) l c k, g := PySem.W.mg_of X G a, b := (fun_mk (st := top 14) l c k).binds (ps := ["parts", "chosen"]) fun _ _ _ _ _ _ us hl => match us, hl with | [_, _], _ => rfl }
def mk_isFit (X : K.In h) (G : h.Ns mainGlobals mg) {f : Addr} {od an : Option Addr} {sl : Array (Option Value)} {oc kv dc pm cd ct : Value} (a : PySem.W.nsIn K mainGlobals "is_fitting" = some (some (.ref f))) (l : K.lookup f = some ⟨oc, od, .func (stood 15 "is_fitting" kv dc pm an cd ct), sl⟩) (c : PySem.W.codeIn K cd "is_fitting" = true) (k : PySem.W.keepIn K (.ref f) = true) : Df K mg "is_fitting" 15 ["tree", "chosen"] :=
  { f := f, fd := _, fn := fun_mk (st := top 15) l c k, g := PySem.W.mg_of X G a, b := (fun_mk (st := top 15) l c k).binds (ps := ["tree", "chosen"]) fun _ _ _ _ _ _ us hl => match us, hl with | [_, _], _ => rfl }
def mk_fits (X : K.In h) (G : h.Ns mainGlobals mg) {f : Addr} {od an : Option Addr} {sl : Array (Option Value)} {oc kv dc pm cd ct : Value} (a : PySem.W.nsIn K mainGlobals "fits" = some (some (.ref f))) (l : K.lookup f = some ⟨oc, od, .func (stood 16 "fits" kv dc pm an cd ct), sl⟩) (c : PySem.W.codeIn K cd "fits" = true) (k : PySem.W.keepIn K (.ref f) = true) : Df K mg "fits" 16 ["tree", "chosen"] :=
  { f := f, fd := _, fn := fun_mk (st := top 16) l c k, g := PySem.W.mg_of X G a, b := (fun_mk (st := top 16) l c k).binds (ps := ["tree", "chosen"]) fun _ _ _ _ _ _ us hl => match us, hl with | [_, _], _ => rfl }
def mk_toldBy (X : K.In h) (G : h.Ns mainGlobals mg) {f : Addr} {od an : Option Addr} {sl : Array (Option Value)} {oc kv dc pm cd ct : Value} (a : PySem.W.nsIn K mainGlobals "told_by" = some (some (.ref f))) (l : K.lookup f = some ⟨oc, od, .func (stood 17 "told_by" kv dc pm an cd ct), sl⟩) (c : PySem.W.codeIn K cd "told_by" = true) (k : PySem.W.keepIn K (.ref f) = true) : Df K mg "told_by" 17 ["tree"] :=
  { f := f, fd := _, fn := fun_mk (st := top 17) l c k, g := PySem.W.mg_of X G a, b := (fun_mk (st := top 17) l c k).binds (ps := ["tree"]) fun _ _ _ _ _ _ us hl => match us, hl with | [_], _ => rfl }
def mk_toldOf (X : K.In h) (G : h.Ns mainGlobals mg) {f : Addr} {od an : Option Addr} {sl : Array (Option Value)} {oc kv dc pm cd ct : Value} (a : PySem.W.nsIn K mainGlobals "told_of" = some (some (.ref f))) (l : K.lookup f = some ⟨oc, od, .func (stood 18 "told_of" kv dc pm an cd ct), sl⟩) (c : PySem.W.codeIn K cd "told_of" = true) (k : PySem.W.keepIn K (.ref f) = true) : Df K mg "told_of" 18 ["tree"] :=
  { f := f, fd := _, fn := fun_mk (st := top 18) l c k, g := PySem.W.mg_of X G a, b := (fun_mk (st := top 18) l c k).binds (ps := ["tree"]) fun _ _ _ _ _ _ us hl => match us, hl with | [_], _ => rfl }
def mk_toldSets (X : K.In h) (G : h.Ns mainGlobals mg) {f : Addr} {od an : Option Addr} {sl : Array (Option Value)} {oc kv dc pm cd ct : Value} (a : PySem.W.nsIn K mainGlobals "told_sets" = some (some (.ref f))) (l : K.lookup f = some ⟨oc, od, .func (stood 19 "told_sets" kv dc pm an cd ct), sl⟩) (c : PySem.W.codeIn K cd "told_sets" = true) (k : PySem.W.keepIn K (.ref f) = true) : Df K mg "told_sets" 19 ["tree"] :=
  { f := f, fd := _, fn := fun_mk (st := top 19) l c k, g := PySem.W.mg_of X G a, b := (fun_mk (st := top 19) l c k).binds (ps := ["tree"]) fun _ _ _ _ _ _ us hl => match us, hl with | [_], _ => rfl }
def mk_stream (X : K.In h) (G : h.Ns mainGlobals mg) {f : Addr} {od an : Option Addr} {sl : Array (Option Value)} {oc kv dc pm cd ct : Value} (a : PySem.W.nsIn K mainGlobals "_law_stream" = some (some (.ref f))) (l : K.lookup f = some ⟨oc, od, .func (stood 21 "_law_stream" kv dc pm an cd ct), sl⟩) (c : PySem.W.codeIn K cd "_law_stream" = true) (k : PySem.W.keepIn K (.ref f) = true) : Df K mg "_law_stream" 21 ["_law_script"] :=
  { f := f, fd := _, fn := fun_mk (st := top 21) l c k, g := PySem.W.mg_of X G a, b := (fun_mk (st := top 21) l c k).binds (ps := ["_law_script"]) fun _ _ _ _ _ _ us hl => match us, hl with | [_], _ => rfl }
def mk_next (X : K.In h) (G : h.Ns mainGlobals mg) {f : Addr} {od an : Option Addr} {sl : Array (Option Value)} {oc kv dc pm cd ct : Value} (a : PySem.W.nsIn K mainGlobals "_law_next" = some (some (.ref f))) (l : K.lookup f = some ⟨oc, od, .func (stood 22 "_law_next" kv dc pm an cd ct), sl⟩) (c : PySem.W.codeIn K cd "_law_next" = true) (k : PySem.W.keepIn K (.ref f) = true) : Df K mg "_law_next" 22 ["_law_stream_here", "_law_many"] :=
  { f := f, fd := _, fn := fun_mk (st := top 22) l c k, g := PySem.W.mg_of X G a, b := (fun_mk (st := top 22) l c k).binds (ps := ["_law_stream_here", "_law_many"]) fun _ _ _ _ _ _ us hl => match us, hl with | [_, _], _ => rfl }
def mk_shuffled (X : K.In h) (G : h.Ns mainGlobals mg) {f : Addr} {od an : Option Addr} {sl : Array (Option Value)} {oc kv dc pm cd ct : Value} (a : PySem.W.nsIn K mainGlobals "_law_shuffled" = some (some (.ref f))) (l : K.lookup f = some ⟨oc, od, .func (stood 23 "_law_shuffled" kv dc pm an cd ct), sl⟩) (c : PySem.W.codeIn K cd "_law_shuffled" = true) (k : PySem.W.keepIn K (.ref f) = true) : Df K mg "_law_shuffled" 23 ["_law_stream_here", "_law_items"] :=
  { f := f, fd := _, fn := fun_mk (st := top 23) l c k, g := PySem.W.mg_of X G a, b := (fun_mk (st := top 23) l c k).binds (ps := ["_law_stream_here", "_law_items"]) fun _ _ _ _ _ _ us hl => match us, hl with | [_, _], _ => rfl }
def mk_chunks (X : K.In h) (G : h.Ns mainGlobals mg) {f : Addr} {od an : Option Addr} {sl : Array (Option Value)} {oc kv dc pm cd ct : Value} (a : PySem.W.nsIn K mainGlobals "_law_chunks" = some (some (.ref f))) (l : K.lookup f = some ⟨oc, od, .func (stood 24 "_law_chunks" kv dc pm an cd ct), sl⟩) (c : PySem.W.codeIn K cd "_law_chunks" = true) (k : PySem.W.keepIn K (.ref f) = true) : Df K mg "_law_chunks" 24 ["_law_stream_here", "_law_items", "_law_many"] :=
  { f := f, fd := _, fn := fun_mk (st := top 24) l c k, g := PySem.W.mg_of X G a, b := (fun_mk (st := top 24) l c k).binds (ps := ["_law_stream_here", "_law_items", "_law_many"]) fun _ _ _ _ _ _ us hl => match us, hl with | [_, _, _], _ => rfl }
def mk_grown (X : K.In h) (G : h.Ns mainGlobals mg) {f : Addr} {od an : Option Addr} {sl : Array (Option Value)} {oc kv dc pm cd ct : Value} (a : PySem.W.nsIn K mainGlobals "_law_grown" = some (some (.ref f))) (l : K.lookup f = some ⟨oc, od, .func (stood 25 "_law_grown" kv dc pm an cd ct), sl⟩) (c : PySem.W.codeIn K cd "_law_grown" = true) (k : PySem.W.keepIn K (.ref f) = true) : Df K mg "_law_grown" 25 ["_law_stream_here", "_law_items"] :=
  { f := f, fd := _, fn := fun_mk (st := top 25) l c k, g := PySem.W.mg_of X G a, b := (fun_mk (st := top 25) l c k).binds (ps := ["_law_stream_here", "_law_items"]) fun _ _ _ _ _ _ us hl => match us, hl with | [_, _], _ => rfl }
def mk_tree (X : K.In h) (G : h.Ns mainGlobals mg) {f : Addr} {od an : Option Addr} {sl : Array (Option Value)} {oc kv dc pm cd ct : Value} (a : PySem.W.nsIn K mainGlobals "_law_tree" = some (some (.ref f))) (l : K.lookup f = some ⟨oc, od, .func (stood 26 "_law_tree" kv dc pm an cd ct), sl⟩) (c : PySem.W.codeIn K cd "_law_tree" = true) (k : PySem.W.keepIn K (.ref f) = true) : Df K mg "_law_tree" 26 ["_law_stream_here", "_law_size"] :=
  { f := f, fd := _, fn := fun_mk (st := top 26) l c k, g := PySem.W.mg_of X G a, b := (fun_mk (st := top 26) l c k).binds (ps := ["_law_stream_here", "_law_size"]) fun _ _ _ _ _ _ us hl => match us, hl with | [_, _], _ => rfl }
def mk_orders (X : K.In h) (G : h.Ns mainGlobals mg) {f : Addr} {od an : Option Addr} {sl : Array (Option Value)} {oc kv dc pm cd ct : Value} (a : PySem.W.nsIn K mainGlobals "_law_orders" = some (some (.ref f))) (l : K.lookup f = some ⟨oc, od, .func (stood 27 "_law_orders" kv dc pm an cd ct), sl⟩) (c : PySem.W.codeIn K cd "_law_orders" = true) (k : PySem.W.keepIn K (.ref f) = true) : Df K mg "_law_orders" 27 ["_law_items"] :=
  { f := f, fd := _, fn := fun_mk (st := top 27) l c k, g := PySem.W.mg_of X G a, b := (fun_mk (st := top 27) l c k).binds (ps := ["_law_items"]) fun _ _ _ _ _ _ us hl => match us, hl with | [_], _ => rfl }
def mk_joined (X : K.In h) (G : h.Ns mainGlobals mg) {f : Addr} {od an : Option Addr} {sl : Array (Option Value)} {oc kv dc pm cd ct : Value} (a : PySem.W.nsIn K mainGlobals "_law_joined" = some (some (.ref f))) (l : K.lookup f = some ⟨oc, od, .func (stood 28 "_law_joined" kv dc pm an cd ct), sl⟩) (c : PySem.W.codeIn K cd "_law_joined" = true) (k : PySem.W.keepIn K (.ref f) = true) : Df K mg "_law_joined" 28 ["_law_children"] :=
  { f := f, fd := _, fn := fun_mk (st := top 28) l c k, g := PySem.W.mg_of X G a, b := (fun_mk (st := top 28) l c k).binds (ps := ["_law_children"]) fun _ _ _ _ _ _ us hl => match us, hl with | [_], _ => rfl }
def mk_rows (X : K.In h) (G : h.Ns mainGlobals mg) {f : Addr} {od an : Option Addr} {sl : Array (Option Value)} {oc kv dc pm cd ct : Value} (a : PySem.W.nsIn K mainGlobals "_law_rows" = some (some (.ref f))) (l : K.lookup f = some ⟨oc, od, .func (stood 29 "_law_rows" kv dc pm an cd ct), sl⟩) (c : PySem.W.codeIn K cd "_law_rows" = true) (k : PySem.W.keepIn K (.ref f) = true) : Df K mg "_law_rows" 29 ["_law_tree_here"] :=
  { f := f, fd := _, fn := fun_mk (st := top 29) l c k, g := PySem.W.mg_of X G a, b := (fun_mk (st := top 29) l c k).binds (ps := ["_law_tree_here"]) fun _ _ _ _ _ _ us hl => match us, hl with | [_], _ => rfl }
def mk_together (X : K.In h) (G : h.Ns mainGlobals mg) {f : Addr} {od an : Option Addr} {sl : Array (Option Value)} {oc kv dc pm cd ct : Value} (a : PySem.W.nsIn K mainGlobals "_law_is_together" = some (some (.ref f))) (l : K.lookup f = some ⟨oc, od, .func (stood 30 "_law_is_together" kv dc pm an cd ct), sl⟩) (c : PySem.W.codeIn K cd "_law_is_together" = true) (k : PySem.W.keepIn K (.ref f) = true) : Df K mg "_law_is_together" 30 ["_law_chosen", "_law_row"] :=
  { f := f, fd := _, fn := fun_mk (st := top 30) l c k, g := PySem.W.mg_of X G a, b := (fun_mk (st := top 30) l c k).binds (ps := ["_law_chosen", "_law_row"]) fun _ _ _ _ _ _ us hl => match us, hl with | [_, _], _ => rfl }
def mk_lcont (X : K.In h) (G : h.Ns mainGlobals mg) {f : Addr} {od an : Option Addr} {sl : Array (Option Value)} {oc kv dc pm cd ct : Value} (a : PySem.W.nsIn K mainGlobals "_law_content" = some (some (.ref f))) (l : K.lookup f = some ⟨oc, od, .func (stood 31 "_law_content" kv dc pm an cd ct), sl⟩) (c : PySem.W.codeIn K cd "_law_content" = true) (k : PySem.W.keepIn K (.ref f) = true) : Df K mg "_law_content" 31 ["_law_tree_here"] :=
  { f := f, fd := _, fn := fun_mk (st := top 31) l c k, g := PySem.W.mg_of X G a, b := (fun_mk (st := top 31) l c k).binds (ps := ["_law_tree_here"]) fun _ _ _ _ _ _ us hl => match us, hl with | [_], _ => rfl }
def mk_ltold (X : K.In h) (G : h.Ns mainGlobals mg) {f : Addr} {od an : Option Addr} {sl : Array (Option Value)} {oc kv dc pm cd ct : Value} (a : PySem.W.nsIn K mainGlobals "_law_told" = some (some (.ref f))) (l : K.lookup f = some ⟨oc, od, .func (stood 32 "_law_told" kv dc pm an cd ct), sl⟩) (c : PySem.W.codeIn K cd "_law_told" = true) (k : PySem.W.keepIn K (.ref f) = true) : Df K mg "_law_told" 32 ["_law_tree_here"] :=
  { f := f, fd := _, fn := fun_mk (st := top 32) l c k, g := PySem.W.mg_of X G a, b := (fun_mk (st := top 32) l c k).binds (ps := ["_law_tree_here"]) fun _ _ _ _ _ _ us hl => match us, hl with | [_], _ => rfl }
def mk_law (X : K.In h) (G : h.Ns mainGlobals mg) {f : Addr} {od an : Option Addr} {sl : Array (Option Value)} {oc kv dc pm cd ct : Value} (a : PySem.W.nsIn K mainGlobals "law" = some (some (.ref f))) (l : K.lookup f = some ⟨oc, od, .func (stood 33 "law" kv dc pm an cd ct), sl⟩) (c : PySem.W.codeIn K cd "law" = true) (k : PySem.W.keepIn K (.ref f) = true) : Df K mg "law" 33 ["_law_script"] :=
  { f := f, fd := _, fn := fun_mk (st := top 33) l c k, g := PySem.W.mg_of X G a, b := (fun_mk (st := top 33) l c k).binds (ps := ["_law_script"]) fun _ _ _ _ _ _ us hl => match us, hl with | [_], _ => rfl }
/-- the top gives law's contract -/
theorem of_top {fa f0 f1 f2 f3 f4 f5 f6 f7 f8 f9 f10 f11 f12 f13 f14 f15 f16 f17 f18 f19 f20 f21 f22 f23 f24 f25 f26 : Addr} (X : K.In h) (G : h.Ns mainGlobals mg) (hfa : mg "law" = some (.ref fa))
    {od0 an0 od1 an1 od2 an2 od3 an3 od4 an4 od5 an5 od6 an6 od7 an7 od8 an8 od9 an9 od10 an10 od11 an11 od12 an12 od13 an13 od14 an14 od15 an15 od16 an16 od17 an17 od18 an18 od19 an19 od20 an20 od21 an21 od22 an22 od23 an23 od24 an24 od25 an25 od26 an26 : Option Addr} {sl0 sl1 sl2 sl3 sl4 sl5 sl6 sl7 sl8 sl9 sl10 sl11 sl12 sl13 sl14 sl15 sl16 sl17 sl18 sl19 sl20 sl21 sl22 sl23 sl24 sl25 sl26 : Array (Option Value)}
    {oc0 kv0 dc0 pm0 cd0 ct0 oc1 kv1 dc1 pm1 cd1 ct1 oc2 kv2 dc2 pm2 cd2 ct2 oc3 kv3 dc3 pm3 cd3 ct3 oc4 kv4 dc4 pm4 cd4 ct4 oc5 kv5 dc5 pm5 cd5 ct5 oc6 kv6 dc6 pm6 cd6 ct6 oc7 kv7 dc7 pm7 cd7 ct7 oc8 kv8 dc8 pm8 cd8 ct8 oc9 kv9 dc9 pm9 cd9 ct9 oc10 kv10 dc10 pm10 cd10 ct10 oc11 kv11 dc11 pm11 cd11 ct11 oc12 kv12 dc12 pm12 cd12 ct12 oc13 kv13 dc13 pm13 cd13 ct13 oc14 kv14 dc14 pm14 cd14 ct14 oc15 kv15 dc15 pm15 cd15 ct15 oc16 kv16 dc16 pm16 cd16 ct16 oc17 kv17 dc17 pm17 cd17 ct17 oc18 kv18 dc18 pm18 cd18 ct18 oc19 kv19 dc19 pm19 cd19 ct19 oc20 kv20 dc20 pm20 cd20 ct20 oc21 kv21 dc21 pm21 cd21 ct21 oc22 kv22 dc22 pm22 cd22 ct22 oc23 kv23 dc23 pm23 cd23 ct23 oc24 kv24 dc24 pm24 cd24 ct24 oc25 kv25 dc25 pm25 cd25 ct25 oc26 kv26 dc26 pm26 cd26 ct26 : Value}
    (a0 : PySem.W.nsIn K mainGlobals "is_integer" = some (some (.ref f0))) (l0 : K.lookup f0 = some ⟨oc0, od0, .func (PySem.W.fnOf "is_integer" "is_integer" (defArgs (top 6)) (defBody (top 6)) (defScope (top 6)) .none kv0 dc0 pm0 an0 cd0 ct0), sl0⟩) (c0 : PySem.W.codeIn K cd0 "is_integer" = true) (k0 : PySem.W.keepIn K (.ref f0) = true)
    (a1 : PySem.W.nsIn K mainGlobals "is_part" = some (some (.ref f1))) (l1 : K.lookup f1 = some ⟨oc1, od1, .func (PySem.W.fnOf "is_part" "is_part" (defArgs (top 7)) (defBody (top 7)) (defScope (top 7)) .none kv1 dc1 pm1 an1 cd1 ct1), sl1⟩) (c1 : PySem.W.codeIn K cd1 "is_part" = true) (k1 : PySem.W.keepIn K (.ref f1) = true)
    (a2 : PySem.W.nsIn K mainGlobals "elements_of" = some (some (.ref f2))) (l2 : K.lookup f2 = some ⟨oc2, od2, .func (PySem.W.fnOf "elements_of" "elements_of" (defArgs (top 8)) (defBody (top 8)) (defScope (top 8)) .none kv2 dc2 pm2 an2 cd2 ct2), sl2⟩) (c2 : PySem.W.codeIn K cd2 "elements_of" = true) (k2 : PySem.W.keepIn K (.ref f2) = true)
    (a3 : PySem.W.nsIn K mainGlobals "content" = some (some (.ref f3))) (l3 : K.lookup f3 = some ⟨oc3, od3, .func (PySem.W.fnOf "content" "content" (defArgs (top 9)) (defBody (top 9)) (defScope (top 9)) .none kv3 dc3 pm3 an3 cd3 ct3), sl3⟩) (c3 : PySem.W.codeIn K cd3 "content" = true) (k3 : PySem.W.keepIn K (.ref f3) = true)
    (a4 : PySem.W.nsIn K mainGlobals "is_tree_for" = some (some (.ref f4))) (l4 : K.lookup f4 = some ⟨oc4, od4, .func (PySem.W.fnOf "is_tree_for" "is_tree_for" (defArgs (top 10)) (defBody (top 10)) (defScope (top 10)) .none kv4 dc4 pm4 an4 cd4 ct4), sl4⟩) (c4 : PySem.W.codeIn K cd4 "is_tree_for" = true) (k4 : PySem.W.keepIn K (.ref f4) = true)
    (a5 : PySem.W.nsIn K mainGlobals "check_tree" = some (some (.ref f5))) (l5 : K.lookup f5 = some ⟨oc5, od5, .func (PySem.W.fnOf "check_tree" "check_tree" (defArgs (top 11)) (defBody (top 11)) (defScope (top 11)) .none kv5 dc5 pm5 an5 cd5 ct5), sl5⟩) (c5 : PySem.W.codeIn K cd5 "check_tree" = true) (k5 : PySem.W.keepIn K (.ref f5) = true)
    (a6 : PySem.W.nsIn K mainGlobals "is_chosen" = some (some (.ref f6))) (l6 : K.lookup f6 = some ⟨oc6, od6, .func (PySem.W.fnOf "is_chosen" "is_chosen" (defArgs (top 12)) (defBody (top 12)) (defScope (top 12)) .none kv6 dc6 pm6 an6 cd6 ct6), sl6⟩) (c6 : PySem.W.codeIn K cd6 "is_chosen" = true) (k6 : PySem.W.keepIn K (.ref f6) = true)
    (a7 : PySem.W.nsIn K mainGlobals "check_chosen" = some (some (.ref f7))) (l7 : K.lookup f7 = some ⟨oc7, od7, .func (PySem.W.fnOf "check_chosen" "check_chosen" (defArgs (top 13)) (defBody (top 13)) (defScope (top 13)) .none kv7 dc7 pm7 an7 cd7 ct7), sl7⟩) (c7 : PySem.W.codeIn K cd7 "check_chosen" = true) (k7 : PySem.W.keepIn K (.ref f7) = true)
    (a8 : PySem.W.nsIn K mainGlobals "neighbouring" = some (some (.ref f8))) (l8 : K.lookup f8 = some ⟨oc8, od8, .func (PySem.W.fnOf "neighbouring" "neighbouring" (defArgs (top 14)) (defBody (top 14)) (defScope (top 14)) .none kv8 dc8 pm8 an8 cd8 ct8), sl8⟩) (c8 : PySem.W.codeIn K cd8 "neighbouring" = true) (k8 : PySem.W.keepIn K (.ref f8) = true)
    (a9 : PySem.W.nsIn K mainGlobals "is_fitting" = some (some (.ref f9))) (l9 : K.lookup f9 = some ⟨oc9, od9, .func (PySem.W.fnOf "is_fitting" "is_fitting" (defArgs (top 15)) (defBody (top 15)) (defScope (top 15)) .none kv9 dc9 pm9 an9 cd9 ct9), sl9⟩) (c9 : PySem.W.codeIn K cd9 "is_fitting" = true) (k9 : PySem.W.keepIn K (.ref f9) = true)
    (a10 : PySem.W.nsIn K mainGlobals "fits" = some (some (.ref f10))) (l10 : K.lookup f10 = some ⟨oc10, od10, .func (PySem.W.fnOf "fits" "fits" (defArgs (top 16)) (defBody (top 16)) (defScope (top 16)) .none kv10 dc10 pm10 an10 cd10 ct10), sl10⟩) (c10 : PySem.W.codeIn K cd10 "fits" = true) (k10 : PySem.W.keepIn K (.ref f10) = true)
    (a11 : PySem.W.nsIn K mainGlobals "told_by" = some (some (.ref f11))) (l11 : K.lookup f11 = some ⟨oc11, od11, .func (PySem.W.fnOf "told_by" "told_by" (defArgs (top 17)) (defBody (top 17)) (defScope (top 17)) .none kv11 dc11 pm11 an11 cd11 ct11), sl11⟩) (c11 : PySem.W.codeIn K cd11 "told_by" = true) (k11 : PySem.W.keepIn K (.ref f11) = true)
    (a12 : PySem.W.nsIn K mainGlobals "told_of" = some (some (.ref f12))) (l12 : K.lookup f12 = some ⟨oc12, od12, .func (PySem.W.fnOf "told_of" "told_of" (defArgs (top 18)) (defBody (top 18)) (defScope (top 18)) .none kv12 dc12 pm12 an12 cd12 ct12), sl12⟩) (c12 : PySem.W.codeIn K cd12 "told_of" = true) (k12 : PySem.W.keepIn K (.ref f12) = true)
    (a13 : PySem.W.nsIn K mainGlobals "told_sets" = some (some (.ref f13))) (l13 : K.lookup f13 = some ⟨oc13, od13, .func (PySem.W.fnOf "told_sets" "told_sets" (defArgs (top 19)) (defBody (top 19)) (defScope (top 19)) .none kv13 dc13 pm13 an13 cd13 ct13), sl13⟩) (c13 : PySem.W.codeIn K cd13 "told_sets" = true) (k13 : PySem.W.keepIn K (.ref f13) = true)
    (a14 : PySem.W.nsIn K mainGlobals "_law_stream" = some (some (.ref f14))) (l14 : K.lookup f14 = some ⟨oc14, od14, .func (PySem.W.fnOf "_law_stream" "_law_stream" (defArgs (top 21)) (defBody (top 21)) (defScope (top 21)) .none kv14 dc14 pm14 an14 cd14 ct14), sl14⟩) (c14 : PySem.W.codeIn K cd14 "_law_stream" = true) (k14 : PySem.W.keepIn K (.ref f14) = true)
    (a15 : PySem.W.nsIn K mainGlobals "_law_next" = some (some (.ref f15))) (l15 : K.lookup f15 = some ⟨oc15, od15, .func (PySem.W.fnOf "_law_next" "_law_next" (defArgs (top 22)) (defBody (top 22)) (defScope (top 22)) .none kv15 dc15 pm15 an15 cd15 ct15), sl15⟩) (c15 : PySem.W.codeIn K cd15 "_law_next" = true) (k15 : PySem.W.keepIn K (.ref f15) = true)
    (a16 : PySem.W.nsIn K mainGlobals "_law_shuffled" = some (some (.ref f16))) (l16 : K.lookup f16 = some ⟨oc16, od16, .func (PySem.W.fnOf "_law_shuffled" "_law_shuffled" (defArgs (top 23)) (defBody (top 23)) (defScope (top 23)) .none kv16 dc16 pm16 an16 cd16 ct16), sl16⟩) (c16 : PySem.W.codeIn K cd16 "_law_shuffled" = true) (k16 : PySem.W.keepIn K (.ref f16) = true)
    (a17 : PySem.W.nsIn K mainGlobals "_law_chunks" = some (some (.ref f17))) (l17 : K.lookup f17 = some ⟨oc17, od17, .func (PySem.W.fnOf "_law_chunks" "_law_chunks" (defArgs (top 24)) (defBody (top 24)) (defScope (top 24)) .none kv17 dc17 pm17 an17 cd17 ct17), sl17⟩) (c17 : PySem.W.codeIn K cd17 "_law_chunks" = true) (k17 : PySem.W.keepIn K (.ref f17) = true)
    (a18 : PySem.W.nsIn K mainGlobals "_law_grown" = some (some (.ref f18))) (l18 : K.lookup f18 = some ⟨oc18, od18, .func (PySem.W.fnOf "_law_grown" "_law_grown" (defArgs (top 25)) (defBody (top 25)) (defScope (top 25)) .none kv18 dc18 pm18 an18 cd18 ct18), sl18⟩) (c18 : PySem.W.codeIn K cd18 "_law_grown" = true) (k18 : PySem.W.keepIn K (.ref f18) = true)
    (a19 : PySem.W.nsIn K mainGlobals "_law_tree" = some (some (.ref f19))) (l19 : K.lookup f19 = some ⟨oc19, od19, .func (PySem.W.fnOf "_law_tree" "_law_tree" (defArgs (top 26)) (defBody (top 26)) (defScope (top 26)) .none kv19 dc19 pm19 an19 cd19 ct19), sl19⟩) (c19 : PySem.W.codeIn K cd19 "_law_tree" = true) (k19 : PySem.W.keepIn K (.ref f19) = true)
    (a20 : PySem.W.nsIn K mainGlobals "_law_orders" = some (some (.ref f20))) (l20 : K.lookup f20 = some ⟨oc20, od20, .func (PySem.W.fnOf "_law_orders" "_law_orders" (defArgs (top 27)) (defBody (top 27)) (defScope (top 27)) .none kv20 dc20 pm20 an20 cd20 ct20), sl20⟩) (c20 : PySem.W.codeIn K cd20 "_law_orders" = true) (k20 : PySem.W.keepIn K (.ref f20) = true)
    (a21 : PySem.W.nsIn K mainGlobals "_law_joined" = some (some (.ref f21))) (l21 : K.lookup f21 = some ⟨oc21, od21, .func (PySem.W.fnOf "_law_joined" "_law_joined" (defArgs (top 28)) (defBody (top 28)) (defScope (top 28)) .none kv21 dc21 pm21 an21 cd21 ct21), sl21⟩) (c21 : PySem.W.codeIn K cd21 "_law_joined" = true) (k21 : PySem.W.keepIn K (.ref f21) = true)
    (a22 : PySem.W.nsIn K mainGlobals "_law_rows" = some (some (.ref f22))) (l22 : K.lookup f22 = some ⟨oc22, od22, .func (PySem.W.fnOf "_law_rows" "_law_rows" (defArgs (top 29)) (defBody (top 29)) (defScope (top 29)) .none kv22 dc22 pm22 an22 cd22 ct22), sl22⟩) (c22 : PySem.W.codeIn K cd22 "_law_rows" = true) (k22 : PySem.W.keepIn K (.ref f22) = true)
    (a23 : PySem.W.nsIn K mainGlobals "_law_is_together" = some (some (.ref f23))) (l23 : K.lookup f23 = some ⟨oc23, od23, .func (PySem.W.fnOf "_law_is_together" "_law_is_together" (defArgs (top 30)) (defBody (top 30)) (defScope (top 30)) .none kv23 dc23 pm23 an23 cd23 ct23), sl23⟩) (c23 : PySem.W.codeIn K cd23 "_law_is_together" = true) (k23 : PySem.W.keepIn K (.ref f23) = true)
    (a24 : PySem.W.nsIn K mainGlobals "_law_content" = some (some (.ref f24))) (l24 : K.lookup f24 = some ⟨oc24, od24, .func (PySem.W.fnOf "_law_content" "_law_content" (defArgs (top 31)) (defBody (top 31)) (defScope (top 31)) .none kv24 dc24 pm24 an24 cd24 ct24), sl24⟩) (c24 : PySem.W.codeIn K cd24 "_law_content" = true) (k24 : PySem.W.keepIn K (.ref f24) = true)
    (a25 : PySem.W.nsIn K mainGlobals "_law_told" = some (some (.ref f25))) (l25 : K.lookup f25 = some ⟨oc25, od25, .func (PySem.W.fnOf "_law_told" "_law_told" (defArgs (top 32)) (defBody (top 32)) (defScope (top 32)) .none kv25 dc25 pm25 an25 cd25 ct25), sl25⟩) (c25 : PySem.W.codeIn K cd25 "_law_told" = true) (k25 : PySem.W.keepIn K (.ref f25) = true)
    (a26 : PySem.W.nsIn K mainGlobals "law" = some (some (.ref f26))) (l26 : K.lookup f26 = some ⟨oc26, od26, .func (PySem.W.fnOf "law" "law" (defArgs (top 33)) (defBody (top 33)) (defScope (top 33)) .none kv26 dc26 pm26 an26 cd26 ct26), sl26⟩) (c26 : PySem.W.codeIn K cd26 "law" = true) (k26 : PySem.W.keepIn K (.ref f26) = true)
    (nIsi : PySem.W.nsIn K mainGlobals "isinstance" = some none)
    (nInt : PySem.W.nsIn K mainGlobals "int" = some none)
    (nBool : PySem.W.nsIn K mainGlobals "bool" = some none)
    (nTuple : PySem.W.nsIn K mainGlobals "tuple" = some none)
    (nStr : PySem.W.nsIn K mainGlobals "str" = some none)
    (nList : PySem.W.nsIn K mainGlobals "list" = some none)
    (nLen : PySem.W.nsIn K mainGlobals "len" = some none)
    (nAll : PySem.W.nsIn K mainGlobals "all" = some none)
    (nSorted : PySem.W.nsIn K mainGlobals "sorted" = some none)
    (nRange : PySem.W.nsIn K mainGlobals "range" = some none)
    (nAbs : PySem.W.nsIn K mainGlobals "abs" = some none)
    {t8 ta tt : Tok} {ld : Addr} {les : Array DictEntry} {ln : Nat}
    (m8 : PySem.W.nsIn K mainGlobals "MOST_ELEMENTS" = some (some (.int 8 t8))) (m9 : PySem.W.nsIn K mainGlobals "LEAST_CHILDREN" = some (some (.ref ld)))
    (dl : K.lookup ld = some ⟨.type "dict", none, .dict les ln, #[]⟩) (dk : PySem.W.KeysLit w.params les.toList) (dm : (ld == sysModules) = false)
    (da : PySem.W.nsIn K ld "any" = some (some (.int 2 ta))) (dt : PySem.W.nsIn K ld "turn" = some (some (.int 3 tt))) :
    ∃ fd : FuncData, (∀ (s : Shared) (v : Value), BindsTo s fd ⟨[v], []⟩ [("_law_script", v)]) ∧ ∀ base : Heap, K.In base → base.Ns mainGlobals mg → FnOk PySem.Challenge.pw_kepttogether_k49_whole_told_sets w K mg base CX0 20 fa fd ["_law_script"] (spLaw K) := by
  cases hfa.symm.trans (PySem.W.mg_of X G a26)
  refine ⟨stood 33 "law" kv26 dc26 pm26 an26 cd26 ct26, fun s v => .of_eq rfl, fun base _ _ => ?_⟩
  let T : Txt w K mg :=
    { isInt := mk_isInt X G a0 l0 c0 k0,
      isPart := mk_isPart X G a1 l1 c1 k1,
      elems := mk_elems X G a2 l2 c2 k2,
      cont := mk_cont X G a3 l3 c3 k3,
      isTree := mk_isTree X G a4 l4 c4 k4,
      chkTree := mk_chkTree X G a5 l5 c5 k5,
      isChosen := mk_isChosen X G a6 l6 c6 k6,
      chkChosen := mk_chkChosen X G a7 l7 c7 k7,
      neigh := mk_neigh X G a8 l8 c8 k8,
      isFit := mk_isFit X G a9 l9 c9 k9,
      fits := mk_fits X G a10 l10 c10 k10,
      toldBy := mk_toldBy X G a11 l11 c11 k11,
      toldOf := mk_toldOf X G a12 l12 c12 k12,
      toldSets := mk_toldSets X G a13 l13 c13 k13,
      stream := mk_stream X G a14 l14 c14 k14,
      next := mk_next X G a15 l15 c15 k15,
      shuffled := mk_shuffled X G a16 l16 c16 k16,
      chunks := mk_chunks X G a17 l17 c17 k17,
      grown := mk_grown X G a18 l18 c18 k18,
      tree := mk_tree X G a19 l19 c19 k19,
      orders := mk_orders X G a20 l20 c20 k20,
      joined := mk_joined X G a21 l21 c21 k21,
      rows := mk_rows X G a22 l22 c22 k22,
      together := mk_together X G a23 l23 c23 k23,
      lcont := mk_lcont X G a24 l24 c24 k24,
      ltold := mk_ltold X G a25 l25 c25 k25,
      law := mk_law X G a26 l26 c26 k26,
      nIsi := PySem.W.mg_none_of X G nIsi,
      nInt := PySem.W.mg_none_of X G nInt,
      nBool := PySem.W.mg_none_of X G nBool,
      nTuple := PySem.W.mg_none_of X G nTuple,
      nStr := PySem.W.mg_none_of X G nStr,
      nList := PySem.W.mg_none_of X G nList,
      nLen := PySem.W.mg_none_of X G nLen,
      nAll := PySem.W.mg_none_of X G nAll,
      nSorted := PySem.W.mg_none_of X G nSorted,
      nRange := PySem.W.mg_none_of X G nRange,
      nAbs := PySem.W.mg_none_of X G nAbs,
      t8 := t8,
      most := PySem.W.mg_of X G m8,
      ld := ld,
      les := les,
      ln := ln,
      gLeast := PySem.W.mg_of X G m9,
      least := ⟨dl, dk, dm⟩,
      ta := ta,
      tt := tt,
      lAny := da,
      lTurn := dt }
  exact ok_law T
end
end Kt
open PySem PySem.W PyProof.Rows
set_option maxRecDepth 100000 in
set_option maxHeartbeats 0 in
theorem PySem.Challenge.cw_kepttogether_k49_whole_told_sets_holds : PySem.Challenge.rw_kepttogether_k49_whole_told_sets.Holds := by
  w_on; o_law; k_head; (case hw => w_witness2)
  k_fill
  refine L2.walk_of (l := PySem.Challenge.rw_kepttogether_k49_whole_told_sets) (n := 63) (k := 20) (x := "_law_script") (CX := fun _ => L2.CX0) (sp := fun w => Kt.spLaw _) rfl (by decide) rfl ⟨rfl, by decide, by decide⟩ (fun w h Y => PySem.W.kIn_of Y) ?F (fun _ _ a ns hl _ hS => ⟨a, ns, rfl, hS, hl, fun _ => rfl⟩) (fun _ _ _ _ _ z => z)
  case F =>
    intro w mg fa h KX G hmg
    refine' Kt.of_top KX G hmg ?a0 ?l0 ?c0 ?k0 ?a1 ?l1 ?c1 ?k1 ?a2 ?l2 ?c2 ?k2 ?a3 ?l3 ?c3 ?k3 ?a4 ?l4 ?c4 ?k4 ?a5 ?l5 ?c5 ?k5 ?a6 ?l6 ?c6 ?k6 ?a7 ?l7 ?c7 ?k7 ?a8 ?l8 ?c8 ?k8 ?a9 ?l9 ?c9 ?k9 ?a10 ?l10 ?c10 ?k10 ?a11 ?l11 ?c11 ?k11 ?a12 ?l12 ?c12 ?k12 ?a13 ?l13 ?c13 ?k13 ?a14 ?l14 ?c14 ?k14 ?a15 ?l15 ?c15 ?k15 ?a16 ?l16 ?c16 ?k16 ?a17 ?l17 ?c17 ?k17 ?a18 ?l18 ?c18 ?k18 ?a19 ?l19 ?c19 ?k19 ?a20 ?l20 ?c20 ?k20 ?a21 ?l21 ?c21 ?k21 ?a22 ?l22 ?c22 ?k22 ?a23 ?l23 ?c23 ?k23 ?a24 ?l24 ?c24 ?k24 ?a25 ?l25 ?c25 ?k25 ?a26 ?l26 ?c26 ?k26 ?nIsi ?nInt ?nBool ?nTuple ?nStr ?nList ?nLen ?nAll ?nSorted ?nRange ?nAbs ?m8 ?m9 ?dl ?dk ?dm ?da ?dt
    (case a0 => k_is); (case l0 => k_is); (case c0 => k_is); (case k0 => k_is)
    (case a1 => k_is); (case l1 => k_is); (case c1 => k_is); (case k1 => k_is)
    (case a2 => k_is); (case l2 => k_is); (case c2 => k_is); (case k2 => k_is)
    (case a3 => k_is); (case l3 => k_is); (case c3 => k_is); (case k3 => k_is)
    (case a4 => k_is); (case l4 => k_is); (case c4 => k_is); (case k4 => k_is)
    (case a5 => k_is); (case l5 => k_is); (case c5 => k_is); (case k5 => k_is)
    (case a6 => k_is); (case l6 => k_is); (case c6 => k_is); (case k6 => k_is)
    (case a7 => k_is); (case l7 => k_is); (case c7 => k_is); (case k7 => k_is)
    (case a8 => k_is); (case l8 => k_is); (case c8 => k_is); (case k8 => k_is)
    (case a9 => k_is); (case l9 => k_is); (case c9 => k_is); (case k9 => k_is)
    (case a10 => k_is); (case l10 => k_is); (case c10 => k_is); (case k10 => k_is)
    (case a11 => k_is); (case l11 => k_is); (case c11 => k_is); (case k11 => k_is)
    (case a12 => k_is); (case l12 => k_is); (case c12 => k_is); (case k12 => k_is)
    (case a13 => k_is); (case l13 => k_is); (case c13 => k_is); (case k13 => k_is)
    (case a14 => k_is); (case l14 => k_is); (case c14 => k_is); (case k14 => k_is)
    (case a15 => k_is); (case l15 => k_is); (case c15 => k_is); (case k15 => k_is)
    (case a16 => k_is); (case l16 => k_is); (case c16 => k_is); (case k16 => k_is)
    (case a17 => k_is); (case l17 => k_is); (case c17 => k_is); (case k17 => k_is)
    (case a18 => k_is); (case l18 => k_is); (case c18 => k_is); (case k18 => k_is)
    (case a19 => k_is); (case l19 => k_is); (case c19 => k_is); (case k19 => k_is)
    (case a20 => k_is); (case l20 => k_is); (case c20 => k_is); (case k20 => k_is)
    (case a21 => k_is); (case l21 => k_is); (case c21 => k_is); (case k21 => k_is)
    (case a22 => k_is); (case l22 => k_is); (case c22 => k_is); (case k22 => k_is)
    (case a23 => k_is); (case l23 => k_is); (case c23 => k_is); (case k23 => k_is)
    (case a24 => k_is); (case l24 => k_is); (case c24 => k_is); (case k24 => k_is)
    (case a25 => k_is); (case l25 => k_is); (case c25 => k_is); (case k25 => k_is)
    (case a26 => k_is); (case l26 => k_is); (case c26 => k_is); (case k26 => k_is)
    (case nIsi => k_is); (case nInt => k_is); (case nBool => k_is); (case nTuple => k_is)
    (case nStr => k_is); (case nList => k_is); (case nLen => k_is); (case nAll => k_is)
    (case nSorted => k_is); (case nRange => k_is); (case nAbs => k_is); (case m8 => k_is)
    (case m9 => k_is); (case dl => k_is); (case dk => k_keys); (case dm => first | rfl | decide | k_is)
    (case da => k_is); (case dt => k_is)
