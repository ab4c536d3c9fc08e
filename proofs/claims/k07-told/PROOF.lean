import PyProof.Rows.All
import Wide.All
import OpenK.AllK
import Wide.FinOn
import HandS.ForExc
import HandS.Wide
import HandS.IsInst
import HandS.Codes
import HandS.Text
import HandS.Walk
import HandS.Comp
import HandS.ExcCtx
import HandS.SortKw
import KE.DatumOrd
import HandS.HotCalls
import HandS.ExcIs
import HandS.ExcOwn
import PySem.Challenge.RW_bucketfall_k07_the_least_told
set_option Elab.async false
set_option linter.all false
set_option maxRecDepth 100000
set_option maxHeartbeats 4000000
namespace Fall
/-! ### how often a number is divided until nothing is left -/
def flen (b n : Nat) : Nat := if h : 0 < n ∧ 2 ≤ b then flen b (n / b) + 1 else 0
termination_by n
decreasing_by exact Nat.div_lt_self h.1 h.2
theorem flen_zero (b : Nat) : flen b 0 = 0 := by
  rw [flen]
  simp
theorem flen_pos {b n : Nat} (h : 0 < n) (hb : 2 ≤ b) : flen b n = flen b (n / b) + 1 := by
  rw [flen, dif_pos ⟨h, hb⟩]
theorem cast_div (n b : Nat) : ((n : Int) / (b : Int)) = ((n / b : Nat) : Int) := by
  exact (Int.natCast_ediv n b).symm
theorem cast_mod (n b : Nat) : ((n : Int) % (b : Int)) = ((n % b : Nat) : Int) := by
  exact (Int.natCast_emod n b).symm
/-! ### where two numbers part -/
theorem part_dec {b x y : Nat} (h : x ≠ y) (hb : 2 ≤ b) : x / b + y / b < x + y := by
  have h1 : x / b ≤ x := Nat.div_le_self _ _
  have h2 : y / b ≤ y := Nat.div_le_self _ _
  rcases Nat.lt_or_ge 0 x with hx | hx
  · have := Nat.div_lt_self hx hb
    omega
  · have hy : 0 < y := by omega
    have := Nat.div_lt_self hy hb
    omega
def part (b x y : Nat) : Nat := if h : x ≠ y ∧ 2 ≤ b then part b (x / b) (y / b) + 1 else 0
termination_by x + y
decreasing_by exact part_dec h.1 h.2
theorem part_eq (b x : Nat) : part b x x = 0 := by
  rw [part, dif_neg (fun h => h.1 rfl)]
theorem part_ne {b x y : Nat} (h : x ≠ y) (hb : 2 ≤ b) : part b x y = part b (x / b) (y / b) + 1 := by
  rw [part, dif_pos ⟨h, hb⟩]
theorem part_comm (b : Nat) (hb : 2 ≤ b) : ∀ (s x y : Nat), x + y ≤ s → part b x y = part b y x
  | s, x, y, hs => by
    by_cases h : x = y
    · subst h
      rfl
    · rw [part_ne h hb, part_ne (fun e => h e.symm) hb]
      have hd := part_dec h hb
      match s, hs with
      | 0, hs => omega
      | s + 1, hs => rw [part_comm b hb s (x / b) (y / b) (by omega)]
theorem div_mod_inj {b x y : Nat} (h1 : x / b = y / b) (h2 : x % b = y % b) : x = y := by
  rw [← Nat.div_add_mod x b, ← Nat.div_add_mod y b, h1, h2]
/-- what the loop over figures comes to, from the place p and the last found f on -/
def pfin (b o t p f : Nat) : Nat := if o = t then f else p + part b o t
theorem pfin_ne {b o t p f : Nat} (hb : 2 ≤ b) (h : o % b ≠ t % b) : pfin b (o / b) (t / b) (p + 1) (p + 1) = pfin b o t p f := by
  have hne : o ≠ t := fun e => h (by rw [e])
  unfold pfin
  rw [if_neg hne, part_ne hne hb]
  by_cases e : o / b = t / b
  · rw [if_pos e, e, part_eq]
  · rw [if_neg e]
    omega
theorem pfin_eq {b o t p f : Nat} (hb : 2 ≤ b) (h : o % b = t % b) : pfin b (o / b) (t / b) (p + 1) f = pfin b o t p f := by
  unfold pfin
  by_cases e : o = t
  · subst e
    rw [if_pos rfl, if_pos rfl]
  · have e2 : o / b ≠ t / b := fun q => e (div_mod_inj q h)
    rw [if_neg e, if_neg e2, part_ne e hb]
    omega
theorem pfin_start (b x y : Nat) : pfin b x y 0 0 = part b x y := by
  unfold pfin
  by_cases e : x = y
  · subst e
    rw [if_pos rfl, part_eq]
  · rw [if_neg e]
    omega
/-! ### things, buckets, the store (plain) -/
structure Th (α : Type) where
  n : Nat
  x : α
  c : Nat
structure Sto (α : Type) where
  base : Nat
  last : Nat
  many : Nat
  moves : Nat
  bk : List (List (Th α))
section
variable {α : Type}
abbrev Bks (α : Type) := List (List (Th α))
/-- the buckets as far as k -/
def ext (bk : Bks α) (k : Nat) : Bks α := bk ++ List.replicate (k + 1 - bk.length) []
def addAt (bk : Bks α) (k : Nat) (h : Th α) : Bks α := bk.set k (bk.getD k [] ++ [h])
def tot : Bks α → Nat
  | [] => 0
  | hs :: r => hs.length + tot r
def low : Bks α → Nat
  | [] => 0
  | hs :: r => if hs.isEmpty then low r + 1 else 0
def minN : List (Th α) → Nat
  | [] => 0
  | [h] => h.n
  | h :: h2 :: r => if h.n ≤ minN (h2 :: r) then h.n else minN (h2 :: r)
def bump (h : Th α) : Th α := ⟨h.n, h.x, h.c + 1⟩
/-- one thing of the bucket that falls -/
def fstep (b place last : Nat) (s : Bks α × List (Th α) × Nat) (h : Th α) : Bks α × List (Th α) × Nat :=
  if part b h.n last < place then (addAt s.1 (part b h.n last) (bump h), s.2.1, s.2.2 + 1) else (s.1, s.2.1 ++ [h], s.2.2)
def Sto.put (S : Sto α) (n : Nat) (x : α) : Sto α :=
  { S with bk := addAt (ext S.bk (part S.base n S.last)) (part S.base n S.last) ⟨n, x, 0⟩, many := S.many + 1 }
def Sto.run (S : Sto α) (place : Nat) (hs : List (Th α)) : Bks α × List (Th α) × Nat := hs.foldl (fstep S.base place (minN (S.bk.getD place []))) (S.bk, [], S.moves)
def Sto.fall (S : Sto α) (place : Nat) : Sto α :=
  { S with last := minN (S.bk.getD place []), moves := (S.run place (S.bk.getD place [])).2.2, bk := (S.run place (S.bk.getD place [])).1.set place (S.run place (S.bk.getD place [])).2.1 }
/-- ahead of the taking -/
def Sto.pre (S : Sto α) : Sto α := if 0 < low S.bk then S.fall (low S.bk) else S
def Sto.take (S : Sto α) : Sto α := { S.pre with bk := S.pre.bk.set 0 ((S.pre.bk.getD 0 []).drop 1), many := S.pre.many - 1 }
/-- the first least thing of a list -/
def first : Th α → List (Th α) → Th α
  | f, [] => f
  | f, h :: r => if h.n < f.n then first h r else first f r
def rowsFrom : Nat → Bks α → List (Nat × Th α)
  | _, [] => []
  | i, hs :: r => hs.map (fun h => (i, h)) ++ rowsFrom (i + 1) r

/-! ### by places -/
theorem getD_lt {bk : Bks α} {j : Nat} {hs : List (Th α)} (h : bk[j]? = some hs) : bk.getD j [] = hs := by
  rw [List.getD_eq_getElem?_getD, h]
  rfl
theorem get_of {bk : Bks α} {j : Nat} (h : j < bk.length) : bk[j]? = some (bk.getD j []) := by
  rw [List.getD_eq_getElem?_getD, List.getElem?_eq_getElem h]
  rfl
theorem getD_ge {bk : Bks α} {j : Nat} (h : bk.length ≤ j) : bk.getD j [] = [] := by
  rw [List.getD_eq_getElem?_getD, List.getElem?_eq_none h]
  rfl
theorem ext_len (bk : Bks α) (k : Nat) : (ext bk k).length = if bk.length ≤ k then k + 1 else bk.length := by
  unfold ext
  rw [List.length_append, List.length_replicate]
  split <;> omega
theorem ext_lt (bk : Bks α) (k : Nat) : k < (ext bk k).length := by
  rw [ext_len]
  split <;> omega
theorem ext_getD (bk : Bks α) (k j : Nat) : (ext bk k).getD j [] = bk.getD j [] := by
  unfold ext
  rw [List.getD_eq_getElem?_getD, List.getD_eq_getElem?_getD]
  by_cases h : j < bk.length
  · rw [List.getElem?_append_left h]
  · rw [List.getElem?_append_right (by omega), List.getElem?_eq_none (l := bk) (by omega), List.getElem?_replicate]
    split <;> rfl
theorem ext_done {bk : Bks α} {k : Nat} (h : k < bk.length) : ext bk k = bk := by
  unfold ext
  rw [show k + 1 - bk.length = 0 by omega]
  simp
theorem set_getD (bk : Bks α) (k j : Nat) (l : List (Th α)) : (bk.set k l).getD j [] = if j = k ∧ k < bk.length then l else bk.getD j [] := by
  rw [List.getD_eq_getElem?_getD, List.getD_eq_getElem?_getD]
  by_cases h : j = k
  · subst h
    by_cases hk : j < bk.length
    · rw [if_pos ⟨rfl, hk⟩, List.getElem?_set_self hk]
      rfl
    · rw [if_neg (fun z => hk z.2), List.getElem?_eq_none (by rw [List.length_set]; omega), List.getElem?_eq_none (by omega)]
  · rw [if_neg (fun z => h z.1), List.getElem?_set_ne (fun z => h z.symm)]
theorem addAt_len (bk : Bks α) (k : Nat) (h : Th α) : (addAt bk k h).length = bk.length := by
  unfold addAt
  rw [List.length_set]
theorem addAt_getD {bk : Bks α} {k : Nat} (h : Th α) (hk : k < bk.length) (j : Nat) : (addAt bk k h).getD j [] = if j = k then bk.getD k [] ++ [h] else bk.getD j [] := by
  unfold addAt
  rw [set_getD]
  by_cases e : j = k
  · rw [if_pos ⟨e, hk⟩, if_pos e]
  · rw [if_neg (fun z => e z.1), if_neg e]
theorem tot_set : ∀ {bk : Bks α} {k : Nat} (l : List (Th α)), k < bk.length → tot (bk.set k l) + (bk.getD k []).length = tot bk + l.length
  | [], k, l, h => by simp at h
  | hs :: r, 0, l, h => by
    show l.length + tot r + hs.length = hs.length + tot r + l.length
    omega
  | hs :: r, k + 1, l, h => by
    have ih := tot_set (bk := r) (k := k) l (by simpa using h)
    show hs.length + tot (r.set k l) + (r.getD k []).length = hs.length + tot r + l.length
    omega
theorem tot_addAt {bk : Bks α} {k : Nat} (h : Th α) (hk : k < bk.length) : tot (addAt bk k h) = tot bk + 1 := by
  have e := tot_set (bk.getD k [] ++ [h]) hk
  rw [List.length_append] at e
  unfold addAt
  simp at e ⊢
  omega
theorem tot_app : ∀ (a b : Bks α), tot (a ++ b) = tot a + tot b
  | [], b => by simp [tot]
  | hs :: r, b => by
    show hs.length + tot (r ++ b) = hs.length + tot r + tot b
    rw [tot_app r b]
    omega
theorem tot_rep (m : Nat) : tot (List.replicate m ([] : List (Th α))) = 0 := by
  induction m with
  | zero => rfl
  | succ m ih =>
    rw [List.replicate_succ]
    show 0 + tot (List.replicate m []) = 0
    omega
theorem tot_ext (bk : Bks α) (k : Nat) : tot (ext bk k) = tot bk := by
  unfold ext
  rw [tot_app, tot_rep]
  omega
theorem tot_getD : ∀ (bk : Bks α) (j : Nat), (bk.getD j []).length ≤ tot bk
  | [], j => by simp
  | hs :: r, 0 => by
    show hs.length ≤ hs.length + tot r
    omega
  | hs :: r, j + 1 => by
    have := tot_getD r j
    show (r.getD j []).length ≤ hs.length + tot r
    omega
theorem low_spec : ∀ {bk : Bks α}, 0 < tot bk → low bk < bk.length ∧ bk.getD (low bk) [] ≠ [] ∧ ∀ j, j < low bk → bk.getD j [] = []
  | [], h => by simp [tot] at h
  | hs :: r, h => by
    cases hs with
    | cons a l =>
      have e : low ((a :: l) :: r) = 0 := rfl
      rw [e]
      refine ⟨by simp, by simp, fun j hj => by omega⟩
    | nil =>
      have h' : 0 < tot r := by
        have e : tot ([] :: r) = 0 + tot r := rfl
        omega
      obtain ⟨h1, h2, h3⟩ := low_spec h'
      have e : low ([] :: r) = low r + 1 := rfl
      rw [e]
      refine ⟨by simpa using h1, h2, fun j hj => ?_⟩
      match j with
      | 0 => rfl
      | j + 1 => exact h3 j (by omega)
theorem minN_spec : ∀ {hs : List (Th α)}, hs ≠ [] → (∃ h, h ∈ hs ∧ h.n = minN hs) ∧ ∀ h, h ∈ hs → minN hs ≤ h.n
  | [], h => absurd rfl h
  | [a], _ => ⟨⟨a, by simp, rfl⟩, fun h hm => by
    have e : h = a := by simpa using hm
    subst e
    exact Nat.le_refl _⟩
  | a :: b :: r, _ => by
    obtain ⟨⟨h, hm, e⟩, h2⟩ := minN_spec (hs := b :: r) (by simp)
    have e3 : minN (a :: b :: r) = if a.n ≤ minN (b :: r) then a.n else minN (b :: r) := rfl
    rw [e3]
    by_cases c : a.n ≤ minN (b :: r)
    · rw [if_pos c]
      refine ⟨⟨a, by simp, rfl⟩, fun y hy => ?_⟩
      rcases List.mem_cons.mp hy with rfl | hy
      · exact Nat.le_refl _
      · exact Nat.le_trans c (h2 y hy)
    · rw [if_neg c]
      refine ⟨⟨h, List.mem_cons_of_mem _ hm, e⟩, fun y hy => ?_⟩
      rcases List.mem_cons.mp hy with rfl | hy
      · omega
      · exact h2 y hy
theorem minN_unique {hs : List (Th α)} {m : Nat} (h1 : ∃ h, h ∈ hs ∧ h.n = m) (h2 : ∀ h, h ∈ hs → m ≤ h.n) : m = minN hs := by
  obtain ⟨h, hm, e⟩ := h1
  have hne : hs ≠ [] := fun z => by rw [z] at hm; cases hm
  obtain ⟨⟨y, hy, ey⟩, hle⟩ := minN_spec hne
  have a := hle h hm
  have b := h2 y hy
  omega

/-! ### where numbers part -/
theorem part_le {b : Nat} (hb : 2 ≤ b) : ∀ (k x y : Nat), x / b ^ k = y / b ^ k → part b x y ≤ k
  | 0, x, y, h => by
    rw [Nat.pow_zero, Nat.div_one, Nat.div_one] at h
    subst h
    rw [part_eq]
    exact Nat.le_refl _
  | k + 1, x, y, h => by
    by_cases e : x = y
    · subst e
      rw [part_eq]
      omega
    · rw [part_ne e hb]
      have := part_le hb k (x / b) (y / b) (by
        rw [Nat.div_div_eq_div_mul, Nat.div_div_eq_div_mul, ← Nat.pow_succ']
        exact h)
      omega
theorem part_same {b : Nat} (hb : 2 ≤ b) : ∀ (s x y : Nat), x + y ≤ s → x / b ^ part b x y = y / b ^ part b x y
  | s, x, y, hs => by
    by_cases e : x = y
    · subst e
      rfl
    · rw [part_ne e hb, Nat.pow_succ', ← Nat.div_div_eq_div_mul, ← Nat.div_div_eq_div_mul]
      have hd := part_dec e hb
      match s, hs with
      | 0, hs => omega
      | s + 1, hs => exact part_same hb s (x / b) (y / b) (by omega)
/-- parting at k or below: the same behind k divisions -/
theorem part_iff {b : Nat} (hb : 2 ≤ b) (k x y : Nat) : part b x y ≤ k ↔ x / b ^ k = y / b ^ k := by
  refine ⟨fun h => ?_, part_le hb k x y⟩
  have e := part_same hb _ x y (Nat.le_refl _)
  obtain ⟨d, rfl⟩ : ∃ d, k = part b x y + d := ⟨k - part b x y, by omega⟩
  rw [Nat.pow_add, ← Nat.div_div_eq_div_mul, ← Nat.div_div_eq_div_mul, e]
theorem part_zero {b : Nat} (hb : 2 ≤ b) {x y : Nat} (h : part b x y = 0) : x = y := by
  have e := (part_iff hb 0 x y).mp (by omega)
  simpa using e
theorem part_bits {b : Nat} (hb : 2 ≤ b) {k x y : Nat} (hx : x < 2 ^ k) (hy : y < 2 ^ k) : part b x y ≤ k := by
  have h1 : 2 ^ k ≤ b ^ k := Nat.pow_le_pow_left hb k
  refine part_le hb k x y ?_
  rw [Nat.div_eq_of_lt (by omega), Nat.div_eq_of_lt (by omega)]
/-- of two beyond the last one, the one that parts lower is less -/
theorem part_order {b l x y : Nat} (hb : 2 ≤ b) (hy : l ≤ y) (h : part b x l < part b y l) : x < y := by
  obtain ⟨k, hk1, hk2⟩ : ∃ k, part b x l ≤ k ∧ k + 1 = part b y l := ⟨part b y l - 1, by omega, by omega⟩
  have e1 := (part_iff hb k x l).mp hk1
  have e2 : ¬ y / b ^ k = l / b ^ k := fun z => by
    have := (part_iff hb k y l).mpr z
    omega
  have e3 : l / b ^ k ≤ y / b ^ k := Nat.div_le_div_right hy
  have e4 : x / b ^ k < y / b ^ k := by omega
  rcases Nat.lt_or_ge x y with z | z
  · exact z
  · have := Nat.div_le_div_right (c := b ^ k) z
    omega
/-- a number that parts higher keeps its place when the last one moves below -/
theorem part_keep {b l m z k : Nat} (hb : 2 ≤ b) (hm : part b m l ≤ k) (hz : k < part b z l) : part b z m = part b z l := by
  have go : ∀ j, k ≤ j → (part b z m ≤ j ↔ part b z l ≤ j) := fun j hj => by
    have e : m / b ^ j = l / b ^ j := (part_iff hb j m l).mp (by omega)
    rw [part_iff hb, part_iff hb, e]
  have a1 := (go (part b z l) (by omega)).mpr (Nat.le_refl _)
  have a2 : ¬ part b z m ≤ part b z l - 1 := fun q => by
    have := (go (part b z l - 1) (by omega)).mp q
    omega
  omega
theorem part_fall {b l m z k : Nat} (hb : 2 ≤ b) (hm : part b m l = k) (hz : part b z l = k) : part b z m ≤ k := by
  have e1 := (part_iff hb k m l).mp (by omega)
  have e2 := (part_iff hb k z l).mp (by omega)
  exact (part_iff hb k z m).mpr (by omega)
end
/-! ### what holds of a store (plain) -/
section
variable {α : Type}
structure Sto.Ok (S : Sto α) : Prop where
  b2 : 2 ≤ S.base
  b16 : S.base ≤ 16
  tot : S.many = tot S.bk
  pl : ∀ j h, h ∈ S.bk.getD j [] → part S.base h.n S.last = j ∧ S.last ≤ h.n
def Sto.new (b : Nat) : Sto α := ⟨b, 0, 0, 0, []⟩
theorem new_ok {b : Nat} (h2 : 2 ≤ b) (h16 : b ≤ 16) : (Sto.new b : Sto α).Ok := ⟨h2, h16, rfl, fun j h hm => by
  have e : (Sto.new b : Sto α).bk.getD j [] = [] := by
    show ([] : List (List (Th α))).getD j [] = []
    rw [List.getD_eq_getElem?_getD]
    rfl
  rw [e] at hm
  cases hm⟩
theorem put_getD (S : Sto α) (n : Nat) (x : α) (j : Nat) : (S.put n x).bk.getD j [] = if j = part S.base n S.last then S.bk.getD j [] ++ [⟨n, x, 0⟩] else S.bk.getD j [] := by
  show (addAt (ext S.bk _) _ _).getD j [] = _
  rw [addAt_getD _ (ext_lt _ _), ext_getD, ext_getD]
  by_cases e : j = part S.base n S.last
  · rw [if_pos e, if_pos e, e]
  · rw [if_neg e, if_neg e]
theorem put_ok {S : Sto α} (O : S.Ok) {n : Nat} (x : α) (h : S.last ≤ n) : (S.put n x).Ok := by
  refine ⟨O.b2, O.b16, ?_, fun j t ht => ?_⟩
  · show S.many + 1 = Fall.tot (addAt (ext S.bk _) _ _)
    rw [tot_addAt _ (ext_lt _ _), tot_ext, O.tot]
  · rw [put_getD] at ht
    by_cases e : j = part S.base n S.last
    · rw [if_pos e] at ht
      rcases List.mem_append.mp ht with z | z
      · exact O.pl j t z
      · have e2 : t = ⟨n, x, 0⟩ := by simpa using z
        subst e2
        exact ⟨e.symm, h⟩
    · rw [if_neg e] at ht
      exact O.pl j t ht

/-! ### the fall -/
structure Fell (b place last : Nat) (bk : Bks α) (mv : Nat) (hs : List (Th α)) (s : Bks α × List (Th α) × Nat) : Prop where
  len : s.1.length = bk.length
  lo : ∀ j, j < place → s.1.getD j [] = bk.getD j [] ++ (hs.filter fun h => part b h.n last = j).map bump
  hi : ∀ j, place ≤ j → s.1.getD j [] = bk.getD j []
  stay : s.2.1 = hs.filter fun h => ¬ part b h.n last < place
  mv : s.2.2 = mv + (hs.filter fun h => part b h.n last < place).length
  tot : Fall.tot s.1 + s.2.1.length = Fall.tot bk + hs.length
theorem fell_step {b place last mv : Nat} {bk : Bks α} {hs : List (Th α)} {s : Bks α × List (Th α) × Nat} (hp : place < bk.length) (F : Fell b place last bk mv hs s) (h : Th α) :
    Fell b place last bk mv (hs ++ [h]) (fstep b place last s h) := by
  obtain ⟨f1, f2, f3, f4, f5, f6⟩ := F
  unfold fstep
  by_cases c : part b h.n last < place
  · rw [if_pos c]
    have hk : part b h.n last < s.1.length := by omega
    refine ⟨by rw [addAt_len]; exact f1, fun j hj => ?_, fun j hj => ?_, ?_, ?_, ?_⟩
    · show (addAt s.1 _ _).getD j [] = _
      rw [addAt_getD _ hk, List.filter_append, List.map_append]
      by_cases e : j = part b h.n last
      · rw [if_pos e, ← e, f2 j hj, List.append_assoc]
        congr 2
        simp [e]
      · rw [if_neg e, f2 j hj]
        have e2 : decide (part b h.n last = j) = false := decide_eq_false (fun q => e q.symm)
        simp [e2]
    · show (addAt s.1 _ _).getD j [] = _
      rw [addAt_getD _ hk, if_neg (by omega)]
      exact f3 j hj
    · show s.2.1 = _
      rw [List.filter_append, f4]
      simp [c]
    · show s.2.2 + 1 = _
      rw [List.filter_append, f5]
      simp [c]
      omega
    · show Fall.tot (addAt s.1 _ _) + s.2.1.length = _
      rw [tot_addAt _ hk, List.length_append]
      simp
      omega
  · rw [if_neg c]
    refine ⟨f1, fun j hj => ?_, f3, ?_, ?_, ?_⟩
    · show s.1.getD j [] = _
      rw [f2 j hj, List.filter_append]
      have e2 : decide (part b h.n last = j) = false := decide_eq_false (fun q => by omega)
      simp [e2]
    · show s.2.1 ++ [h] = _
      have c2 : decide (¬ part b h.n last < place) = true := decide_eq_true c
      rw [List.filter_append, f4]
      have e3 : [h].filter (fun h => decide (¬ part b h.n last < place)) = [h] := List.filter_cons_of_pos c2
      rw [e3]
    · show s.2.2 = _
      rw [List.filter_append, f5]
      simp [c]
    · show Fall.tot s.1 + (s.2.1 ++ [h]).length = _
      rw [List.length_append, List.length_append]
      simp
      omega
theorem fell_all {b place last : Nat} {bk : Bks α} {mv : Nat} (hp : place < bk.length) : ∀ (hs gs : List (Th α)) (s : Bks α × List (Th α) × Nat), Fell b place last bk mv gs s →
    Fell b place last bk mv (gs ++ hs) (hs.foldl (fstep b place last) s)
  | [], gs, s, F => by simpa using F
  | h :: r, gs, s, F => by
    have := fell_all hp r (gs ++ [h]) _ (fell_step hp F h)
    simpa using this
theorem fell_start (b place last : Nat) (bk : Bks α) (mv : Nat) : Fell b place last bk mv [] (bk, [], mv) := ⟨rfl, fun j _ => by simp, fun _ _ => rfl, rfl, rfl, rfl⟩
theorem run_fell (S : Sto α) {place : Nat} (hp : place < S.bk.length) (hs : List (Th α)) : Fell S.base place (minN (S.bk.getD place [])) S.bk S.moves hs (S.run place hs) :=
  fell_all hp hs [] _ (fell_start _ _ _ _ _)
/-- the store behind the fall of its lowest bucket, by places -/
structure Fallen (S : Sto α) (place : Nat) : Prop where
  len : (S.fall place).bk.length = S.bk.length
  lo : ∀ j, j < place → (S.fall place).bk.getD j [] = ((S.bk.getD place []).filter fun h => part S.base h.n (S.fall place).last = j).map bump
  at_ : (S.fall place).bk.getD place [] = (S.bk.getD place []).filter fun h => part S.base h.n (S.fall place).last = place
  hi : ∀ j, place < j → (S.fall place).bk.getD j [] = S.bk.getD j []
  mn : (∃ h, h ∈ S.bk.getD place [] ∧ h.n = (S.fall place).last) ∧ ∀ h, h ∈ S.bk.getD place [] → (S.fall place).last ≤ h.n
  low_ : ∀ h, h ∈ S.bk.getD place [] → part S.base h.n (S.fall place).last ≤ place
  lp : part S.base (S.fall place).last S.last = place
  ll : S.last ≤ (S.fall place).last
  mv : (S.fall place).moves = S.moves + ((S.bk.getD place []).filter fun h => part S.base h.n (S.fall place).last < place).length
  tot : Fall.tot (S.fall place).bk = Fall.tot S.bk
theorem fallen {S : Sto α} (O : S.Ok) {place : Nat} (hp : place < S.bk.length) (hne : S.bk.getD place [] ≠ []) (he : ∀ j, j < place → S.bk.getD j [] = []) : Fallen S place := by
  have R := run_fell S hp (S.bk.getD place [])
  have M := minN_spec hne
  obtain ⟨⟨h0, hm0, e0⟩, hle⟩ := M
  have p0 := O.pl place h0 hm0
  have lp : part S.base (minN (S.bk.getD place [])) S.last = place := by
    rw [← e0]
    exact p0.1
  have lw : ∀ h, h ∈ S.bk.getD place [] → part S.base h.n (minN (S.bk.getD place [])) ≤ place := fun h hm => part_fall O.b2 lp (O.pl place h hm).1
  have gd : ∀ j, (S.fall place).bk.getD j [] = if j = place ∧ place < (S.run place (S.bk.getD place [])).1.length then (S.run place (S.bk.getD place [])).2.1 else (S.run place (S.bk.getD place [])).1.getD j [] := fun j => set_getD _ _ _ _
  have hp' : place < (S.run place (S.bk.getD place [])).1.length := by rw [R.len]; exact hp
  refine ⟨?_, fun j hj => ?_, ?_, fun j hj => ?_, ⟨⟨h0, hm0, e0⟩, hle⟩, lw, lp, ?_, R.mv, ?_⟩
  · show ((S.run place (S.bk.getD place [])).1.set place _).length = _
    rw [List.length_set]
    exact R.len
  · rw [gd, if_neg (fun z => by omega), R.lo j hj, he j hj]
    rfl
  · rw [gd, if_pos ⟨rfl, hp'⟩, R.stay]
    refine List.filter_congr fun h hm => ?_
    have := lw h hm
    exact decide_eq_decide.mpr ⟨fun z => by
      show part S.base h.n (minN (S.bk.getD place [])) = place
      omega, fun z => by
      have z' : part S.base h.n (minN (S.bk.getD place [])) = place := z
      omega⟩
  · rw [gd, if_neg (fun z => by omega), R.hi j (by omega)]
  · show S.last ≤ minN (S.bk.getD place [])
    rw [← e0]
    exact p0.2
  · have t1 := tot_set (S.run place (S.bk.getD place [])).2.1 hp'
    have t2 := R.tot
    have t3 := R.hi place (Nat.le_refl _)
    show Fall.tot ((S.run place (S.bk.getD place [])).1.set place _) = _
    rw [t3] at t1
    omega
theorem fall_ok {S : Sto α} (O : S.Ok) {place : Nat} (hp : place < S.bk.length) (hne : S.bk.getD place [] ≠ []) (he : ∀ j, j < place → S.bk.getD j [] = []) : (S.fall place).Ok := by
  have F := fallen O hp hne he
  refine ⟨O.b2, O.b16, ?_, fun j h hm => ?_⟩
  · rw [F.tot]
    exact O.tot
  · rcases Nat.lt_trichotomy j place with c | c | c
    · rw [F.lo j c] at hm
      obtain ⟨y, hy, rfl⟩ := List.mem_map.mp hm
      obtain ⟨hy1, hy2⟩ := List.mem_filter.mp hy
      exact ⟨of_decide_eq_true hy2, F.mn.2 y hy1⟩
    · subst c
      rw [F.at_] at hm
      obtain ⟨hy1, hy2⟩ := List.mem_filter.mp hm
      exact ⟨of_decide_eq_true hy2, F.mn.2 h hy1⟩
    · rw [F.hi j c] at hm
      obtain ⟨p1, p2⟩ := O.pl j h hm
      refine ⟨?_, ?_⟩
      · show part S.base h.n (S.fall place).last = j
        rw [part_keep O.b2 (Nat.le_of_eq F.lp) (by omega)]
        exact p1
      · obtain ⟨⟨m, hm1, hm2⟩, _⟩ := F.mn
        obtain ⟨q1, q2⟩ := O.pl place m hm1
        have := part_order O.b2 p2 (x := m.n) (by omega)
        omega
/-- ahead of the taking: the first bucket is not empty, all are as told -/
structure Ready (S : Sto α) : Prop where
  ok : S.pre.Ok
  ne : S.pre.bk.getD 0 [] ≠ []
  many : S.pre.many = S.many
  base : S.pre.base = S.base
  len : S.pre.bk.length = S.bk.length
theorem ready {S : Sto α} (O : S.Ok) (h : 0 < S.many) : Ready S := by
  have L := low_spec (bk := S.bk) (by rw [← O.tot]; exact h)
  obtain ⟨h1, h2, h3⟩ := L
  by_cases c : 0 < low S.bk
  · have F := fallen O h1 h2 h3
    have K := fall_ok O h1 h2 h3
    have g : (S.fall (low S.bk)).bk.getD 0 [] ≠ [] := by
      obtain ⟨⟨m, hm1, hm2⟩, _⟩ := F.mn
      rw [F.lo 0 c]
      intro z
      have : bump m ∈ ((S.bk.getD (low S.bk) []).filter fun h => part S.base h.n (S.fall (low S.bk)).last = 0).map bump := by
        refine List.mem_map.mpr ⟨m, List.mem_filter.mpr ⟨hm1, decide_eq_true ?_⟩, rfl⟩
        rw [hm2, part_eq]
      rw [z] at this
      cases this
    have e : (if 0 < low S.bk then S.fall (low S.bk) else S) = S.fall (low S.bk) := if_pos c
    refine ⟨?_, ?_, ?_, ?_, ?_⟩
    · unfold Sto.pre; rw [e]; exact K
    · unfold Sto.pre; rw [e]; exact g
    · unfold Sto.pre; rw [e]; rfl
    · unfold Sto.pre; rw [e]; rfl
    · unfold Sto.pre; rw [e]; exact F.len
  · have e : (if 0 < low S.bk then S.fall (low S.bk) else S) = S := if_neg c
    have z : low S.bk = 0 := by omega
    rw [z] at h2
    refine ⟨?_, ?_, ?_, ?_, ?_⟩
    · unfold Sto.pre; rw [e]; exact O
    · unfold Sto.pre; rw [e]; exact h2
    · unfold Sto.pre; rw [e]
    · unfold Sto.pre; rw [e]
    · unfold Sto.pre; rw [e]
theorem take_getD {S : Sto α} (R : Ready S) (j : Nat) : S.take.bk.getD j [] = if j = 0 then (S.pre.bk.getD 0 []).drop 1 else S.pre.bk.getD j [] := by
  show (S.pre.bk.set 0 _).getD j [] = _
  rw [set_getD]
  have hl : 0 < S.pre.bk.length := by
    rcases Nat.lt_or_ge 0 S.pre.bk.length with z | z
    · exact z
    · exact absurd (getD_ge z) R.ne
  by_cases e : j = 0
  · rw [if_pos ⟨e, hl⟩, if_pos e]
  · rw [if_neg (fun z => e z.1), if_neg e]
theorem take_ok {S : Sto α} (O : S.Ok) (h : 0 < S.many) : S.take.Ok := by
  have R := ready O h
  have K := R.ok
  have hl : 0 < S.pre.bk.length := by
    rcases Nat.lt_or_ge 0 S.pre.bk.length with z | z
    · exact z
    · exact absurd (getD_ge z) R.ne
  refine ⟨K.b2, K.b16, ?_, fun j t ht => ?_⟩
  · show S.pre.many - 1 = Fall.tot (S.pre.bk.set 0 _)
    have t := tot_set ((S.pre.bk.getD 0 []).drop 1) hl
    rw [List.length_drop] at t
    have e := K.tot
    have n0 : 0 < (S.pre.bk.getD 0 []).length := List.length_pos_iff.mpr R.ne
    omega
  · rw [take_getD R] at ht
    by_cases e : j = 0
    · subst e
      rw [if_pos rfl] at ht
      exact K.pl 0 t (List.mem_of_mem_drop ht)
    · rw [if_neg e] at ht
      exact K.pl j t ht
end
/-! ### the store and a plain list of what is there -/
section
variable {α : Type}
def two (h : Th α) : Nat × α := (h.n, h.x)
def lof (v : Nat) (L : List (Nat × α)) : List (Nat × α) := L.filter fun q => q.1 = v
def bof (S : Sto α) (v : Nat) : List (Th α) := (S.bk.getD (part S.base v S.last) []).filter fun h => h.n = v
structure Holds (S : Sto α) (L : List (Nat × α)) : Prop where
  many : S.many = L.length
  at_ : ∀ v, (bof S v).map two = lof v L
theorem holds_new (b : Nat) : Holds (Sto.new b : Sto α) [] := ⟨rfl, fun v => by
  have e : (Sto.new b : Sto α).bk.getD (part b v 0) [] = [] := getD_ge (Nat.zero_le _)
  unfold bof
  show (((Sto.new b : Sto α).bk.getD (part b v 0) []).filter _).map two = _
  rw [e]
  rfl⟩
theorem lof_app (v : Nat) (A B : List (Nat × α)) : lof v (A ++ B) = lof v A ++ lof v B := List.filter_append ..
theorem lof_none {v : Nat} {A : List (Nat × α)} (h : ∀ q, q ∈ A → q.1 ≠ v) : lof v A = [] := List.filter_eq_nil_iff.mpr fun q hq z => h q hq (of_decide_eq_true z)
theorem lof_mem {q : Nat × α} {A : List (Nat × α)} (h : q ∈ A) : q ∈ lof q.1 A := List.mem_filter.mpr ⟨h, decide_eq_true rfl⟩
theorem lof_at (q : Nat × α) (B : List (Nat × α)) : lof q.1 (q :: B) = q :: lof q.1 B := List.filter_cons_of_pos (decide_eq_true rfl)
theorem lof_off {v : Nat} {q : Nat × α} (h : q.1 ≠ v) (B : List (Nat × α)) : lof v (q :: B) = lof v B := List.filter_cons_of_neg (fun z => h (of_decide_eq_true z))
theorem holds_put {S : Sto α} {L : List (Nat × α)} (P : Holds S L) (n : Nat) (x : α) : Holds (S.put n x) (L ++ [(n, x)]) := by
  refine ⟨?_, fun v => ?_⟩
  · show S.many + 1 = _
    rw [P.many, List.length_append]
    rfl
  · have e := P.at_ v
    unfold bof at e ⊢
    show (((S.put n x).bk.getD (part S.base v S.last) []).filter _).map two = _
    rw [put_getD, lof_app, ← e]
    by_cases c : n = v
    · subst c
      rw [if_pos rfl, List.filter_append, List.map_append, lof_at (n, x) []]
      congr 1
      have : [(⟨n, x, 0⟩ : Th α)].filter (fun h => decide (h.n = n)) = [⟨n, x, 0⟩] := List.filter_cons_of_pos (decide_eq_true rfl)
      rw [this]
      rfl
    · rw [lof_off (q := (n, x)) c []]
      show _ = _ ++ []
      rw [List.append_nil]
      by_cases d : part S.base v S.last = part S.base n S.last
      · rw [if_pos d, List.filter_append]
        have : [(⟨n, x, 0⟩ : Th α)].filter (fun h => decide (h.n = v)) = [] := List.filter_cons_of_neg (fun z => c (of_decide_eq_true z))
        rw [this, List.append_nil]
      · rw [if_neg d]
/-- what is in a bucket and of one number -/
theorem bof_mem {S : Sto α} (O : S.Ok) {j : Nat} {h : Th α} (hm : h ∈ S.bk.getD j []) : h ∈ bof S h.n := by
  have p := (O.pl j h hm).1
  unfold bof
  rw [p]
  exact List.mem_filter.mpr ⟨hm, decide_eq_true rfl⟩
theorem filter_two (l : List (Th α)) (v : Nat) (p : Th α → Bool) (h : ∀ t, t ∈ l → t.n = v → p t = true) : (l.filter p).filter (fun t => t.n = v) = l.filter fun t => t.n = v := by
  rw [List.filter_filter]
  refine List.filter_congr fun t ht => ?_
  by_cases c : t.n = v
  · rw [h t ht c, Bool.and_true]
  · rw [decide_eq_false c]
    rfl
theorem fT {v : Nat} {a : Th α} (h : a.n = v) (l : List (Th α)) : (a :: l).filter (fun t => decide (t.n = v)) = a :: l.filter fun t => decide (t.n = v) := List.filter_cons_of_pos (decide_eq_true h)
theorem fF {v : Nat} {a : Th α} (h : ¬ a.n = v) (l : List (Th α)) : (a :: l).filter (fun t => decide (t.n = v)) = l.filter fun t => decide (t.n = v) := List.filter_cons_of_neg (fun z => h (of_decide_eq_true z))
theorem filter_bump (l : List (Th α)) (v : Nat) : ((l.map bump).filter fun t => t.n = v).map two = (l.filter fun t => t.n = v).map two := by
  induction l with
  | nil => rfl
  | cons a l ih =>
    rw [List.map_cons]
    by_cases c : a.n = v
    · rw [fT (a := bump a) c, fT c, List.map_cons, List.map_cons, ih]
      rfl
    · rw [fF (a := bump a) c, fF c, ih]
theorem bof_fall {S : Sto α} (O : S.Ok) {place : Nat} (hp : place < S.bk.length) (hne : S.bk.getD place [] ≠ []) (he : ∀ j, j < place → S.bk.getD j [] = []) (v : Nat) : (bof (S.fall place) v).map two = (bof S v).map two := by
  have F := fallen O hp hne he
  have nl : ∀ h, h ∈ (S.fall place).bk.getD (part S.base v (S.fall place).last) [] → h.n = v → part S.base v S.last = place ∨ place < part S.base v S.last := fun h hm e => by
    rcases Nat.lt_trichotomy (part S.base v (S.fall place).last) place with c | c | c
    · rw [F.lo _ c] at hm
      obtain ⟨y, hy, rfl⟩ := List.mem_map.mp hm
      have q := (O.pl place y (List.mem_filter.mp hy).1).1
      have e2 : y.n = v := e
      rw [e2] at q
      exact Or.inl q
    · rw [c, F.at_] at hm
      have q := (O.pl place h (List.mem_filter.mp hm).1).1
      rw [e] at q
      exact Or.inl q
    · rw [F.hi _ c] at hm
      have q := (O.pl _ h hm).1
      rw [e] at q
      exact Or.inr (by omega)
  show (((S.fall place).bk.getD (part S.base v (S.fall place).last) []).filter fun h => h.n = v).map two = _
  rcases Nat.lt_trichotomy (part S.base v S.last) place with c | c | c
  · have e1 : ((S.fall place).bk.getD (part S.base v (S.fall place).last) []).filter (fun h => decide (h.n = v)) = [] := List.filter_eq_nil_iff.mpr fun h hm z => by
      rcases nl h hm (of_decide_eq_true z) with y | y <;> omega
    rw [e1]
    unfold bof
    rw [he _ c]
    rfl
  · have lp := F.lp
    have le : part S.base v (S.fall place).last ≤ place := part_fall O.b2 lp c
    unfold bof
    rw [c]
    rcases Nat.lt_or_eq_of_le le with d | d
    · rw [F.lo _ d, filter_bump, filter_two _ v _ (fun t _ e => by rw [e]; exact decide_eq_true rfl)]
    · rw [d, F.at_, filter_two _ v _ (fun t _ e => by rw [e]; exact decide_eq_true d)]
  · have e : part S.base v (S.fall place).last = part S.base v S.last := part_keep O.b2 (Nat.le_of_eq F.lp) c
    unfold bof
    rw [e, F.hi _ c]
theorem bof_pre {S : Sto α} (O : S.Ok) (h : 0 < S.many) (v : Nat) : (bof S.pre v).map two = (bof S v).map two := by
  obtain ⟨h1, h2, h3⟩ := low_spec (bk := S.bk) (by rw [← O.tot]; exact h)
  by_cases c : 0 < low S.bk
  · have e : S.pre = S.fall (low S.bk) := if_pos c
    rw [e]
    exact bof_fall O h1 h2 h3 v
  · have e : S.pre = S := if_neg c
    rw [e]
theorem holds_pre {S : Sto α} {L : List (Nat × α)} (O : S.Ok) (h : 0 < S.many) (P : Holds S L) : Holds S.pre L := ⟨by rw [(ready O h).many]; exact P.many, fun v => by rw [bof_pre O h v]; exact P.at_ v⟩
/-- none is less than the last one gone -/
theorem holds_ge {S : Sto α} {L : List (Nat × α)} (O : S.Ok) (P : Holds S L) {q : Nat × α} (hq : q ∈ L) : S.last ≤ q.1 := by
  have h1 := lof_mem hq
  rw [← P.at_ q.1] at h1
  obtain ⟨t, ht, e⟩ := List.mem_map.mp h1
  obtain ⟨h3, h4⟩ := List.mem_filter.mp ht
  have := (O.pl _ t h3).2
  rw [of_decide_eq_true h4] at this
  exact this
/-- the list with its first least told -/
structure Split (L A : List (Nat × α)) (q : Nat × α) (B : List (Nat × α)) : Prop where
  eq : L = A ++ q :: B
  lt : ∀ a, a ∈ A → q.1 < a.1
  le : ∀ b, b ∈ B → q.1 ≤ b.1
theorem split_ex : ∀ {L : List (Nat × α)}, L ≠ [] → ∃ A q B, Split L A q B
  | [], h => absurd rfl h
  | [a], _ => ⟨[], a, [], ⟨rfl, by simp, by simp⟩⟩
  | a :: b :: r, _ => by
    obtain ⟨A, q, B, ⟨e, h1, h2⟩⟩ := split_ex (L := b :: r) (by simp)
    by_cases c : a.1 ≤ q.1
    · refine ⟨[], a, b :: r, ⟨rfl, by simp, fun y hy => ?_⟩⟩
      rw [e] at hy
      rcases List.mem_append.mp hy with z | z
      · have := h1 y z
        omega
      · rcases List.mem_cons.mp z with z | z
        · rw [z]; exact c
        · have := h2 y z
          omega
    · refine ⟨a :: A, q, B, ⟨by rw [e]; rfl, fun y hy => ?_, h2⟩⟩
      rcases List.mem_cons.mp hy with z | z
      · rw [z]; omega
      · exact h1 y z
theorem Split.lof {L A : List (Nat × α)} {q : Nat × α} {B : List (Nat × α)} (s : Split L A q B) : lof q.1 L = q :: lof q.1 B := by
  rw [s.eq, lof_app, lof_none (A := A) (fun a ha z => by have := s.lt a ha; omega), lof_at]
  rfl
theorem Split.ge {L A : List (Nat × α)} {q : Nat × α} {B : List (Nat × α)} (s : Split L A q B) {r : Nat × α} (h : r ∈ L) : q.1 ≤ r.1 := by
  rw [s.eq] at h
  rcases List.mem_append.mp h with z | z
  · exact Nat.le_of_lt (s.lt r z)
  · rcases List.mem_cons.mp z with z | z
    · rw [z]; exact Nat.le_refl _
    · exact s.le r z
theorem Split.mem {L A : List (Nat × α)} {q : Nat × α} {B : List (Nat × α)} (s : Split L A q B) : q ∈ L := by
  rw [s.eq]
  simp
theorem Split.len {L A : List (Nat × α)} {q : Nat × α} {B : List (Nat × α)} (s : Split L A q B) : L.length = (A ++ B).length + 1 := by
  rw [s.eq, List.length_append, List.length_append, List.length_cons]
  omega
/-- what goes is the first least of the list; the rest stays -/
structure Gone (S : Sto α) (A : List (Nat × α)) (q : Nat × α) (B : List (Nat × α)) (h : Th α) : Prop where
  th : two h = q
  last : S.take.last = q.1
  rest : Holds S.take (A ++ B)
theorem gone {S : Sto α} {L A : List (Nat × α)} {q : Nat × α} {B : List (Nat × α)} (O : S.Ok) (P : Holds S L) (s : Split L A q B) {h : Th α} (eh : (S.pre.bk.getD 0 []).head? = some h) : Gone S A q B h := by
  have hpos : 0 < S.many := by
    rw [P.many, s.len]
    omega
  have R := ready O hpos
  have P1 := holds_pre O hpos P
  have K := R.ok
  obtain ⟨r, er⟩ : ∃ r, S.pre.bk.getD 0 [] = h :: r := by
    cases z : S.pre.bk.getD 0 [] with
    | nil => exact absurd z R.ne
    | cons h' r =>
      rw [z] at eh
      have : h' = h := Option.some.inj eh
      exact ⟨r, by rw [this]⟩
  have alln : ∀ t, t ∈ S.pre.bk.getD 0 [] → t.n = S.pre.last := fun t ht => part_zero K.b2 (K.pl 0 t ht).1
  have e0 : part S.pre.base S.pre.last S.pre.last = 0 := by rw [part_eq]
  have b0 : bof S.pre S.pre.last = S.pre.bk.getD 0 [] := by
    unfold bof
    rw [e0]
    exact List.filter_eq_self.mpr fun t ht => decide_eq_true (alln t ht)
  have a0 := P1.at_ S.pre.last
  rw [b0] at a0
  have hn : h.n = S.pre.last := alln h (by rw [er]; simp)
  have qn : q.1 = S.pre.last := by
    have h1 : S.pre.last ≤ q.1 := holds_ge K P1 s.mem
    have h2 : two h ∈ lof S.pre.last L := by
      rw [← a0, er]
      simp
    have h3 := s.ge (List.mem_filter.mp h2).1
    have h4 : (two h).1 = S.pre.last := hn
    omega
  have e1 : two h :: r.map two = q :: lof q.1 B := by
    rw [← s.lof, qn, ← a0, er]
    rfl
  obtain ⟨e2, e3⟩ := List.cons.inj e1
  refine ⟨e2, qn.symm, ?_, fun v => ?_⟩
  · show S.pre.many - 1 = _
    have h1 := R.many
    have h2 := P.many
    have h3 := s.len
    omega
  · have g : bof S.take v = (if part S.pre.base v S.pre.last = 0 then (S.pre.bk.getD 0 []).drop 1 else S.pre.bk.getD (part S.pre.base v S.pre.last) []).filter fun t => t.n = v := by
      unfold bof
      show (S.take.bk.getD (part S.pre.base v S.pre.last) []).filter _ = _
      rw [take_getD R]
    have key := P1.at_ v
    rw [s.eq, lof_app] at key
    rw [g, lof_app]
    by_cases c : v = S.pre.last
    · subst c
      rw [if_pos e0, er]
      have e4 : (r.filter fun t => decide (t.n = S.pre.last)) = r := List.filter_eq_self.mpr fun t ht => decide_eq_true (alln t (by rw [er]; simp [ht]))
      have e5 : lof S.pre.last A = [] := lof_none fun a ha z => by
        have := s.lt a ha
        omega
      show (r.filter fun t => decide (t.n = S.pre.last)).map two = _
      rw [e4, e3, e5, qn]
      rfl
    · have c2 : ¬ part S.pre.base v S.pre.last = 0 := fun z => c (part_zero K.b2 z)
      rw [if_neg c2]
      rw [lof_off (q := q) (by omega) B] at key
      exact key
theorem first_spec : ∀ (r : List (Th α)) (f : Th α), first f r ∈ f :: r ∧ (∀ g, g ∈ f :: r → (first f r).n ≤ g.n) ∧ ((f :: r).filter fun t => t.n = (first f r).n).head? = some (first f r)
  | [], f => ⟨by simp [first], fun g hg => by
      have : g = f := by simpa using hg
      rw [this]
      exact Nat.le_refl _, by simp [first]⟩
  | h :: r, f => by
    by_cases c : h.n < f.n
    · obtain ⟨h1, h2, h3⟩ := first_spec r h
      have e : first f (h :: r) = first h r := if_pos c
      rw [e]
      have lt := h2 h (by simp)
      refine ⟨List.mem_cons_of_mem _ h1, fun g hg => ?_, ?_⟩
      · rcases List.mem_cons.mp hg with z | z
        · rw [z]; omega
        · exact h2 g z
      · rw [fF (by omega)]
        exact h3
    · obtain ⟨h1, h2, h3⟩ := first_spec r f
      have e : first f (h :: r) = first f r := if_neg c
      rw [e]
      have lt := h2 f (by simp)
      refine ⟨?_, fun g hg => ?_, ?_⟩
      · rcases List.mem_cons.mp h1 with z | z
        · rw [z]; simp
        · simp [z]
      · rcases List.mem_cons.mp hg with z | z
        · rw [z]; exact lt
        · rcases List.mem_cons.mp z with z | z
          · rw [z]; omega
          · exact h2 g (by simp [z])
      · by_cases d : f.n = (first f r).n
        · rw [fT d] at h3 ⊢
          exact h3
        · rw [fF d] at h3 ⊢
          rw [fF (by omega)]
          exact h3
/-- what least tells is the first least of the list -/
theorem least_two {S : Sto α} {L A : List (Nat × α)} {q : Nat × α} {B : List (Nat × α)} (O : S.Ok) (P : Holds S L) (s : Split L A q B) {h : Th α} {r : List (Th α)} (eh : S.bk.getD (low S.bk) [] = h :: r) : two (first h r) = q := by
  have hpos : 0 < S.many := by
    rw [P.many, s.len]
    omega
  obtain ⟨l1, l2, l3⟩ := low_spec (bk := S.bk) (by rw [← O.tot]; exact hpos)
  obtain ⟨f1, f2, f3⟩ := first_spec r h
  have fm : first h r ∈ S.bk.getD (low S.bk) [] := by rw [eh]; exact f1
  have fp := O.pl _ _ fm
  have a0 := P.at_ (first h r).n
  have b0 : bof S (first h r).n = (h :: r).filter fun t => t.n = (first h r).n := by
    unfold bof
    rw [fp.1, eh]
  rw [b0] at a0
  have hd : (lof (first h r).n L).head? = some (two (first h r)) := by
    rw [← a0, List.head?_map, f3]
    rfl
  have m1 : two (first h r) ∈ lof (first h r).n L := List.mem_of_head? hd
  have q1 : q.1 ≤ (first h r).n := s.ge (r := two (first h r)) (List.mem_filter.mp m1).1
  have q2 : (first h r).n ≤ q.1 := by
    have h1 := lof_mem s.mem
    rw [← P.at_ q.1] at h1
    obtain ⟨t, ht, e⟩ := List.mem_map.mp h1
    obtain ⟨h3, h4⟩ := List.mem_filter.mp ht
    have h5 := of_decide_eq_true h4
    have h6 := O.pl _ t h3
    rcases Nat.lt_trichotomy (part S.base q.1 S.last) (low S.bk) with c | c | c
    · rw [l3 _ c] at h3
      cases h3
    · rw [c, eh] at h3
      have := f2 t h3
      omega
    · have := part_order O.b2 h6.2 (x := (first h r).n) (b := S.base) (by omega)
      omega
  have q3 : q.1 = (first h r).n := by omega
  have e := s.lof
  rw [q3] at e
  rw [e] at hd
  exact (Option.some.inj hd).symm
/-- the first least by its place -/
def FirstAt (L : List (Nat × α)) (k : Nat) (q : Nat × α) : Prop := L[k]? = some q ∧ ∀ j r, L[j]? = some r → q.1 ≤ r.1 ∧ (j < k → q.1 < r.1)
theorem FirstAt.split {L : List (Nat × α)} {k : Nat} {q : Nat × α} (f : FirstAt L k q) : Split L (L.take k) q (L.drop (k + 1)) := by
  obtain ⟨e, h⟩ := f
  obtain ⟨hk, eq⟩ := List.getElem?_eq_some_iff.mp e
  refine ⟨?_, fun a ha => ?_, fun b hb => ?_⟩
  · have : L.drop k = q :: L.drop (k + 1) := by rw [List.drop_eq_getElem_cons hk, eq]
    rw [← this, List.take_append_drop]
  · obtain ⟨j, ej⟩ := List.mem_iff_getElem?.mp ha
    rw [List.getElem?_take] at ej
    by_cases c : j < k
    · rw [if_pos c] at ej
      exact (h j a ej).2 c
    · rw [if_neg c] at ej
      cases ej
  · obtain ⟨j, ej⟩ := List.mem_iff_getElem?.mp hb
    rw [List.getElem?_drop] at ej
    exact (h _ b ej).1
/-! ### in order -/
def Sorted (L : List (Nat × α)) : Prop := L.Pairwise fun a b => a.1 ≤ b.1
theorem sorted_same : ∀ {D E : List (Nat × α)}, Sorted D → Sorted E → (∀ v, lof v D = lof v E) → D = E
  | [], [], _, _, _ => rfl
  | [], e :: E, _, _, h => by
    have := h e.1
    rw [lof_at] at this
    cases this
  | d :: D, [], _, _, h => by
    have := h d.1
    rw [lof_at] at this
    cases this
  | d :: D, e :: E, sd, se, h => by
    obtain ⟨sd1, sd2⟩ := List.pairwise_cons.mp sd
    obtain ⟨se1, se2⟩ := List.pairwise_cons.mp se
    have h1 : e.1 ≤ d.1 := by
      have : d ∈ lof d.1 (e :: E) := by
        rw [← h d.1]
        exact lof_mem (by simp)
      rcases List.mem_cons.mp (List.mem_filter.mp this).1 with z | z
      · rw [z]; exact Nat.le_refl _
      · exact se1 d z
    have h2 : d.1 ≤ e.1 := by
      have : e ∈ lof e.1 (d :: D) := by
        rw [h e.1]
        exact lof_mem (by simp)
      rcases List.mem_cons.mp (List.mem_filter.mp this).1 with z | z
      · rw [z]; exact Nat.le_refl _
      · exact sd1 e z
    have h3 : d.1 = e.1 := by omega
    have h4 := h d.1
    rw [lof_at, h3, lof_at] at h4
    obtain ⟨h5, _⟩ := List.cons.inj h4
    subst h5
    rw [sorted_same sd2 se2 (fun v => ?_)]
    have h6 := h v
    by_cases c : d.1 = v
    · subst c
      rw [lof_at, lof_at] at h6
      exact (List.cons.inj h6).2
    · rw [lof_off c, lof_off c] at h6
      exact h6
theorem sorted_app {D : List (Nat × α)} {q : Nat × α} (s : Sorted D) (h : ∀ d, d ∈ D → d.1 ≤ q.1) : Sorted (D ++ [q]) := by
  refine List.pairwise_append.mpr ⟨s, List.pairwise_singleton _ _, fun a ha b hb => ?_⟩
  have : b = q := by simpa using hb
  rw [this]
  exact h a ha
end
end Fall
namespace Fall
open PySem L2
def topS (i : Nat) : Stmt := PySem.Challenge.pw_bucketfall_k07_the_least_told.main.body.getD i (.Pass ⟨0, 0, 0, 0⟩)
abbrev s_need_base : Stmt := topS 7
abbrev s_need_number : Stmt := topS 8
abbrev s_parting : Stmt := topS 9
abbrev s_Store_init : Stmt := inClass (topS 11) 0
abbrev s_Store_room : Stmt := inClass (topS 11) 1
abbrev s_Store_put : Stmt := inClass (topS 11) 2
abbrev s_Store_lowest : Stmt := inClass (topS 11) 3
abbrev s_Store_fall : Stmt := inClass (topS 11) 4
abbrev s_Store_take : Stmt := inClass (topS 11) 5
abbrev s_Store_least : Stmt := inClass (topS 11) 6
abbrev s_Store_rows : Stmt := inClass (topS 11) 7
abbrev s_l_cell_at : Stmt := topS 13
abbrev s_l_whole : Stmt := topS 14
abbrev s_l_number_by : Stmt := topS 15
abbrev s_l_first : Stmt := topS 16
abbrev s_l_words : Stmt := topS 17
abbrev s_l_bare : Stmt := topS 18
abbrev s_l_told : Stmt := topS 19
abbrev s_law : Stmt := topS 20
structure Ad where
  f_need_base : Addr
  d_need_base : FuncData
  f_need_number : Addr
  d_need_number : FuncData
  f_parting : Addr
  d_parting : FuncData
  f_Store_init : Addr
  d_Store_init : FuncData
  f_Store_room : Addr
  d_Store_room : FuncData
  f_Store_put : Addr
  d_Store_put : FuncData
  f_Store_lowest : Addr
  d_Store_lowest : FuncData
  f_Store_fall : Addr
  d_Store_fall : FuncData
  f_Store_take : Addr
  d_Store_take : FuncData
  f_Store_least : Addr
  d_Store_least : FuncData
  f_Store_rows : Addr
  d_Store_rows : FuncData
  f_l_cell_at : Addr
  d_l_cell_at : FuncData
  f_l_whole : Addr
  d_l_whole : FuncData
  f_l_number_by : Addr
  d_l_number_by : FuncData
  f_l_first : Addr
  d_l_first : FuncData
  f_l_words : Addr
  d_l_words : FuncData
  f_l_bare : Addr
  d_l_bare : FuncData
  f_l_told : Addr
  d_l_told : FuncData
  f_law : Addr
  d_law : FuncData
  C_FallError : Addr
  C_NoBase : Addr
  C_NoNumber : Addr
  C_Late : Addr
  C_Bare : Addr
  C_Store : Addr
structure Txt (K : PySem.W.Frag) (mg : Str → Option Value) (a : Ad) : Prop where
  F_need_base : Fun K "need_base" "need_base" s_need_base a.f_need_base a.d_need_base
  m_need_base : mg "need_base" = some (.ref a.f_need_base)
  b_need_base : Binds K a.d_need_base ["base"] []
  F_need_number : Fun K "need_number" "need_number" s_need_number a.f_need_number a.d_need_number
  m_need_number : mg "need_number" = some (.ref a.f_need_number)
  b_need_number : Binds K a.d_need_number ["number"] []
  F_parting : Fun K "parting" "parting" s_parting a.f_parting a.d_parting
  m_parting : mg "parting" = some (.ref a.f_parting)
  b_parting : Binds K a.d_parting ["one", "other", "base"] []
  F_Store_init : Fun K "__init__" "Store.__init__" s_Store_init a.f_Store_init a.d_Store_init
  b_Store_init : Binds K a.d_Store_init ["self", "base"] []
  F_Store_room : Fun K "room" "Store.room" s_Store_room a.f_Store_room a.d_Store_room
  M_Store_room : Meth K a.C_Store "room" a.f_Store_room
  b_Store_room : Binds K a.d_Store_room ["self", "place"] []
  F_Store_put : Fun K "put" "Store.put" s_Store_put a.f_Store_put a.d_Store_put
  M_Store_put : Meth K a.C_Store "put" a.f_Store_put
  b_Store_put : Binds K a.d_Store_put ["self", "number", "name"] []
  F_Store_lowest : Fun K "lowest" "Store.lowest" s_Store_lowest a.f_Store_lowest a.d_Store_lowest
  M_Store_lowest : Meth K a.C_Store "lowest" a.f_Store_lowest
  b_Store_lowest : Binds K a.d_Store_lowest ["self"] []
  F_Store_fall : Fun K "fall" "Store.fall" s_Store_fall a.f_Store_fall a.d_Store_fall
  M_Store_fall : Meth K a.C_Store "fall" a.f_Store_fall
  b_Store_fall : Binds K a.d_Store_fall ["self", "place"] []
  F_Store_take : Fun K "take" "Store.take" s_Store_take a.f_Store_take a.d_Store_take
  M_Store_take : Meth K a.C_Store "take" a.f_Store_take
  b_Store_take : Binds K a.d_Store_take ["self"] []
  F_Store_least : Fun K "least" "Store.least" s_Store_least a.f_Store_least a.d_Store_least
  M_Store_least : Meth K a.C_Store "least" a.f_Store_least
  b_Store_least : Binds K a.d_Store_least ["self"] []
  F_Store_rows : Fun K "rows" "Store.rows" s_Store_rows a.f_Store_rows a.d_Store_rows
  M_Store_rows : Meth K a.C_Store "rows" a.f_Store_rows
  b_Store_rows : Binds K a.d_Store_rows ["self"] []
  F_l_cell_at : Fun K "_law_cell_at" "_law_cell_at" s_l_cell_at a.f_l_cell_at a.d_l_cell_at
  m_l_cell_at : mg "_law_cell_at" = some (.ref a.f_l_cell_at)
  b_l_cell_at : Binds K a.d_l_cell_at ["_law_script", "_law_k"] []
  F_l_whole : Fun K "_law_whole" "_law_whole" s_l_whole a.f_l_whole a.d_l_whole
  m_l_whole : mg "_law_whole" = some (.ref a.f_l_whole)
  b_l_whole : Binds K a.d_l_whole ["_law_found"] []
  F_l_number_by : Fun K "_law_number_by" "_law_number_by" s_l_number_by a.f_l_number_by a.d_l_number_by
  m_l_number_by : mg "_law_number_by" = some (.ref a.f_l_number_by)
  b_l_number_by : Binds K a.d_l_number_by ["_law_cell", "_law_way"] []
  F_l_first : Fun K "_law_first" "_law_first" s_l_first a.f_l_first a.d_l_first
  m_l_first : mg "_law_first" = some (.ref a.f_l_first)
  b_l_first : Binds K a.d_l_first ["_law_things"] []
  F_l_words : Fun K "_law_words" "_law_words" s_l_words a.f_l_words a.d_l_words
  m_l_words : mg "_law_words" = some (.ref a.f_l_words)
  b_l_words : Binds K a.d_l_words ["_law_e"] []
  F_l_bare : Fun K "_law_bare" "_law_bare" s_l_bare a.f_l_bare a.d_l_bare
  m_l_bare : mg "_law_bare" = some (.ref a.f_l_bare)
  b_l_bare : Binds K a.d_l_bare ["_law_store"] []
  F_l_told : Fun K "_law_told" "_law_told" s_l_told a.f_l_told a.d_l_told
  m_l_told : mg "_law_told" = some (.ref a.f_l_told)
  b_l_told : Binds K a.d_l_told ["_law_store", "_law_number", "_law_name"] []
  F_law : Fun K "law" "law" s_law a.f_law a.d_law
  m_law : mg "law" = some (.ref a.f_law)
  b_law : Binds K a.d_law ["_law_script"] []
  g_FallError : mg "FallError" = some (.ref a.C_FallError)
  x_FallError : PySem.W.excIn K a.C_FallError [.type "ValueError", .type "Exception", .type "BaseException", .type "object"] "ValueError.__new__" = true
  k_FallError : PySem.W.keepIn K (.ref a.C_FallError) = true
  xb_FallError : PySem.W.subIn K (.ref a.C_FallError) (.type "BaseException") = some true
  xt_FallError : PySem.W.typeIn K (.ref a.C_FallError) = some (.type "type")
  g_NoBase : mg "NoBase" = some (.ref a.C_NoBase)
  x_NoBase : PySem.W.excIn K a.C_NoBase [.type "ValueError", .type "Exception", .type "BaseException", .type "object"] "ValueError.__new__" = true
  k_NoBase : PySem.W.keepIn K (.ref a.C_NoBase) = true
  xb_NoBase : PySem.W.subIn K (.ref a.C_NoBase) (.type "BaseException") = some true
  xt_NoBase : PySem.W.typeIn K (.ref a.C_NoBase) = some (.type "type")
  g_NoNumber : mg "NoNumber" = some (.ref a.C_NoNumber)
  x_NoNumber : PySem.W.excIn K a.C_NoNumber [.type "ValueError", .type "Exception", .type "BaseException", .type "object"] "ValueError.__new__" = true
  k_NoNumber : PySem.W.keepIn K (.ref a.C_NoNumber) = true
  xb_NoNumber : PySem.W.subIn K (.ref a.C_NoNumber) (.type "BaseException") = some true
  xt_NoNumber : PySem.W.typeIn K (.ref a.C_NoNumber) = some (.type "type")
  g_Late : mg "Late" = some (.ref a.C_Late)
  x_Late : PySem.W.excIn K a.C_Late [.type "ValueError", .type "Exception", .type "BaseException", .type "object"] "ValueError.__new__" = true
  k_Late : PySem.W.keepIn K (.ref a.C_Late) = true
  xb_Late : PySem.W.subIn K (.ref a.C_Late) (.type "BaseException") = some true
  xt_Late : PySem.W.typeIn K (.ref a.C_Late) = some (.type "type")
  g_Bare : mg "Bare" = some (.ref a.C_Bare)
  x_Bare : PySem.W.excIn K a.C_Bare [.type "ValueError", .type "Exception", .type "BaseException", .type "object"] "ValueError.__new__" = true
  k_Bare : PySem.W.keepIn K (.ref a.C_Bare) = true
  xb_Bare : PySem.W.subIn K (.ref a.C_Bare) (.type "BaseException") = some true
  xt_Bare : PySem.W.typeIn K (.ref a.C_Bare) = some (.type "type")
  q_NoBase_NoBase : PySem.W.subIn K (.ref a.C_NoBase) (.ref a.C_NoBase) = some true
  q_NoBase_NoNumber : PySem.W.subIn K (.ref a.C_NoBase) (.ref a.C_NoNumber) = some false
  q_NoBase_Late : PySem.W.subIn K (.ref a.C_NoBase) (.ref a.C_Late) = some false
  q_NoBase_Bare : PySem.W.subIn K (.ref a.C_NoBase) (.ref a.C_Bare) = some false
  q_NoBase_V : PySem.W.subIn K (.ref a.C_NoBase) (.type "ValueError") = some true
  e_NoBase : PySem.W.subIn K (.ref a.C_NoBase) (.ref a.C_FallError) = some true
  eg_NoBase : PySem.W.findIn K (.ref a.C_NoBase) "__getattribute__" = some (some (.builtin "BaseException.__getattribute__"))
  ek_NoBase : PySem.W.findIn K (.ref a.C_NoBase) "__getattr__" = some none
  ed_NoBase : PySem.W.hasDictIn K a.C_NoBase = true
  ea_NoBase : PySem.W.findIn K (.ref a.C_NoBase) "__class__" = some (some (.builtin "object.__class__"))
  em_NoBase : PySem.W.mroIn K a.C_NoBase (.type "object") = some true
  q_NoNumber_NoBase : PySem.W.subIn K (.ref a.C_NoNumber) (.ref a.C_NoBase) = some false
  q_NoNumber_NoNumber : PySem.W.subIn K (.ref a.C_NoNumber) (.ref a.C_NoNumber) = some true
  q_NoNumber_Late : PySem.W.subIn K (.ref a.C_NoNumber) (.ref a.C_Late) = some false
  q_NoNumber_Bare : PySem.W.subIn K (.ref a.C_NoNumber) (.ref a.C_Bare) = some false
  q_NoNumber_V : PySem.W.subIn K (.ref a.C_NoNumber) (.type "ValueError") = some true
  e_NoNumber : PySem.W.subIn K (.ref a.C_NoNumber) (.ref a.C_FallError) = some true
  eg_NoNumber : PySem.W.findIn K (.ref a.C_NoNumber) "__getattribute__" = some (some (.builtin "BaseException.__getattribute__"))
  ek_NoNumber : PySem.W.findIn K (.ref a.C_NoNumber) "__getattr__" = some none
  ed_NoNumber : PySem.W.hasDictIn K a.C_NoNumber = true
  ea_NoNumber : PySem.W.findIn K (.ref a.C_NoNumber) "__class__" = some (some (.builtin "object.__class__"))
  em_NoNumber : PySem.W.mroIn K a.C_NoNumber (.type "object") = some true
  q_Late_NoBase : PySem.W.subIn K (.ref a.C_Late) (.ref a.C_NoBase) = some false
  q_Late_NoNumber : PySem.W.subIn K (.ref a.C_Late) (.ref a.C_NoNumber) = some false
  q_Late_Late : PySem.W.subIn K (.ref a.C_Late) (.ref a.C_Late) = some true
  q_Late_Bare : PySem.W.subIn K (.ref a.C_Late) (.ref a.C_Bare) = some false
  q_Late_V : PySem.W.subIn K (.ref a.C_Late) (.type "ValueError") = some true
  e_Late : PySem.W.subIn K (.ref a.C_Late) (.ref a.C_FallError) = some true
  eg_Late : PySem.W.findIn K (.ref a.C_Late) "__getattribute__" = some (some (.builtin "BaseException.__getattribute__"))
  ek_Late : PySem.W.findIn K (.ref a.C_Late) "__getattr__" = some none
  ed_Late : PySem.W.hasDictIn K a.C_Late = true
  ea_Late : PySem.W.findIn K (.ref a.C_Late) "__class__" = some (some (.builtin "object.__class__"))
  em_Late : PySem.W.mroIn K a.C_Late (.type "object") = some true
  q_Bare_NoBase : PySem.W.subIn K (.ref a.C_Bare) (.ref a.C_NoBase) = some false
  q_Bare_NoNumber : PySem.W.subIn K (.ref a.C_Bare) (.ref a.C_NoNumber) = some false
  q_Bare_Late : PySem.W.subIn K (.ref a.C_Bare) (.ref a.C_Late) = some false
  q_Bare_Bare : PySem.W.subIn K (.ref a.C_Bare) (.ref a.C_Bare) = some true
  q_Bare_V : PySem.W.subIn K (.ref a.C_Bare) (.type "ValueError") = some true
  e_Bare : PySem.W.subIn K (.ref a.C_Bare) (.ref a.C_FallError) = some true
  eg_Bare : PySem.W.findIn K (.ref a.C_Bare) "__getattribute__" = some (some (.builtin "BaseException.__getattribute__"))
  ek_Bare : PySem.W.findIn K (.ref a.C_Bare) "__getattr__" = some none
  ed_Bare : PySem.W.hasDictIn K a.C_Bare = true
  ea_Bare : PySem.W.findIn K (.ref a.C_Bare) "__class__" = some (some (.builtin "object.__class__"))
  em_Bare : PySem.W.mroIn K a.C_Bare (.type "object") = some true
  ed_FallError : PySem.W.hasDictIn K a.C_FallError = true
  en_o : PySem.W.specialIn K (.builtin "object.__class__") "__get__" = some (some (.builtin "getset_descriptor.__get__"))
  et_o : PySem.W.takesIn K (.builtin "object.__class__") = some true
  g_Store : mg "Store" = some (.ref a.C_Store)
  cl_Store : Cls K a.C_Store
  M_Store : Mk K a.C_Store a.f_Store_init
  nf_Store_base : NoAttr K a.C_Store "base"
  nf_Store_last : NoAttr K a.C_Store "last"
  nf_Store_many : NoAttr K a.C_Store "many"
  nf_Store_moves : NoAttr K a.C_Store "moves"
  nf_Store_buckets : NoAttr K a.C_Store "buckets"
  n_ValueError : mg "ValueError" = none
  n_bool : mg "bool" = none
  n_int : mg "int" = none
  n_isinstance : mg "isinstance" = none
  n_len : mg "len" = none
  n_list : mg "list" = none
  n_min : mg "min" = none
  n_range : mg "range" = none
  n_str : mg "str" = none
  n_tuple : mg "tuple" = none
/-! ### small words -/
/-- nothing is let out of a call where nothing may be -/
theorem passN {X : Cx} : Passes (L2N.CX X.prog X.w) X E0 := fun _ _ _ _ _ _ _ c => let ⟨_, _, _, _, _, _, _, _, _, _, _, _, no⟩ := c; no.elim
/-- a def that may raise, by its body; of the exception its context is known to be none -/
theorem okN {P : Program} {w : World} {K : PySem.W.Frag} {mg : Str → Option Value} {base : Heap} {x q : Str} {st : Stmt} {f : Addr} {fd : FuncData} {N ps : List Str} {k : Nat} {sp : Sp} (F : Fun K x q st f fd) (S : FnScope N ps (defScope st)) (len : ∀ vs H Q E, sp vs H Q E → vs.length = ps.length)
    (body : ∀ (cdv : Value) (A : Around) (outer : List Env) (s : Shared) (H : Hp) (vs : List V) (Q : VK) (E : XK), Room k (A.deeper (PyProof.Rows.envOfC q (defScope st) s.heap.objs.size f cdv)) → sp vs H Q E →
      ∃ t, PSs (cxOf (L2N.CX P w) P w K mg base N q (defScope st) f cdv A outer s H E) (defBody st) t ∧ t { nx := fun _ H1 => Q .non H1, rt := Q } (start N vs) H) : FnOk P w K mg base (L2N.CX P w) (k + 1) f fd ps sp := by
  obtain ⟨oc, od, kV, doc, pm, an, cdv, ct, osl, rfl, hl, hc⟩ := F.ex
  exact fn_of hl hc S len (body cdv)
theorem ifd {p : Prop} [Decidable p] {A B : Prop} (h1 : p → A) (h2 : ¬ p → B) : if decide p = true then A else B := by
  by_cases h : p
  · rw [if_pos (decide_eq_true h)]
    exact h1 h
  · rw [if_neg (by rw [decide_eq_false h]; decide)]
    exact h2 h
theorem ifn {p : Prop} [Decidable p] {A B : Prop} (h1 : ¬ p → A) (h2 : p → B) : if (!decide p) = true then A else B := by
  by_cases h : p
  · rw [decide_eq_true h]
    exact iteF (h2 h)
  · rw [decide_eq_false h]
    exact iteT (h1 h)
theorem dec_ii {i j : Int} : decide (V.int i = V.int j) = decide (i = j) := by
  by_cases h : i = j
  · subst h
    simp
  · rw [decide_eq_false h, decide_eq_false (fun q => h (V.int.inj q))]
theorem dec_ss {i j : Str} : decide (V.str i = V.str j) = decide (i = j) := by
  by_cases h : i = j
  · subst h
    simp
  · rw [decide_eq_false h, decide_eq_false (fun q => h (V.str.inj q))]
theorem ifi {i j : Int} {A B : Prop} (h1 : i = j → A) (h2 : ¬ i = j → B) : if decide (V.int i = V.int j) = true then A else B := by
  rw [dec_ii]
  exact ifd h1 h2
theorem ifs {i j : Str} {A B : Prop} (h1 : i = j → A) (h2 : ¬ i = j → B) : if decide (V.str i = V.str j) = true then A else B := by
  rw [dec_ss]
  exact ifd h1 h2
theorem ifni {i j : Int} {A B : Prop} (h1 : ¬ i = j → A) (h2 : i = j → B) : if (!decide (V.int i = V.int j)) = true then A else B := by
  rw [dec_ii]
  exact ifn h1 h2
theorem bt {p : Prop} [Decidable p] (h : p) : decide p = true := decide_eq_true h
theorem divW {i : Int} {j : Int} (h1 : 0 < j) (h2 : j < 1073741824) : CDivW i j := by
  have e : (2 : Nat) ^ 30 = 1073741824 := by decide
  refine wide_div (b := 30) h1 ?_ (by decide) (by decide)
  rw [e]
  omega
theorem mod_nat (c : Int) (m : Nat) (h : 0 < m) : ∃ r : Nat, c % (m : Int) = r ∧ r < m :=
  ⟨(c % (m : Int)).toNat, by
    have := Int.emod_nonneg c (show (m : Int) ≠ 0 by omega)
    omega, by
    have h1 := Int.emod_nonneg c (show (m : Int) ≠ 0 by omega)
    have h2 := Int.emod_lt_of_pos c (show (0 : Int) < (m : Int) by omega)
    omega⟩
theorem nat_of {i : Int} (h : 0 ≤ i) : ∃ n : Nat, i = n := Int.eq_ofNat_of_zero_le h
theorem modn (c : Int) {m : Int} (h : 0 < m) : ∃ n : Nat, c % m = n ∧ (n : Int) < m := by
  obtain ⟨n, e⟩ := nat_of (Int.emod_nonneg c (show m ≠ 0 by omega))
  exact ⟨n, e, by rw [← e]; exact Int.emod_lt_of_pos c h⟩
theorem cpow (j : Nat) (h : j ≤ 1000000 := by decide) : CPow 10 (j : Int) := ⟨by omega, by omega, by decide⟩
theorem same_upd1 {H : Hp} {l : Addr} {o : HO} (hl : H l = none) : Same H (upd H l o) := fun b u e => by
  rw [upd_ne (ne_of_none e hl)]
  exact e
theorem mulS {i j : Int} (h1 : -1000000 < i) (h2 : i < 1000000) (h3 : -1000000 < j) (h4 : j < 1000000) : CMulW i j := by
  have e : (2 : Nat) ^ 20 = 1048576 := by decide
  refine wide_mul (a := 20) (b := 20) ?_ ?_ (by decide) (by decide) (by decide)
  · rw [e]
    omega
  · rw [e]
    omega
theorem or_det {A B : TT} {σ : St} {H : Hp} {ka kb : Bool} (ha : ∀ Q : Bool → Hp → Prop, Q ka H → A σ H Q) (hb : ka = false → ∀ Q : Bool → Hp → Prop, Q kb H → B σ H Q) (Q : Bool → Hp → Prop) (q : Q (ka || kb) H) : tOr A B σ H Q := by
  refine ha _ ?_
  cases ka with
  | true => exact iteT q
  | false => exact iteF (hb rfl Q q)
theorem and_det {A B : TT} {σ : St} {H : Hp} {ka kb : Bool} (ha : ∀ Q : Bool → Hp → Prop, Q ka H → A σ H Q) (hb : ka = true → ∀ Q : Bool → Hp → Prop, Q kb H → B σ H Q) (Q : Bool → Hp → Prop) (q : Q (ka && kb) H) : tAnd A B σ H Q := by
  refine ha _ ?_
  cases ka with
  | true => exact iteT (hb rfl Q q)
  | false => exact iteF q
theorem small900 {n : Nat} {m : Int} (h : (n : Int) < m) (hm : m ≤ 2 ^ 900) : n < 2 ^ 900 := Int.ofNat_lt.mp (by rw [Int.natCast_pow]; exact Int.lt_of_lt_of_le h hm)
def sp_law (K : PySem.W.Frag) : Sp := fun vs H Q _ => ∃ (s : Addr) (ns : List Int), vs = [.ref s] ∧ SqL K H s (ns.map V.int) ∧ ns.length ≤ 63 ∧ ∀ H', Q (.bl true) H'
/-! ### texts as lists of codes -/
def mkS (l : List Nat) : Str := ⟨l.toArray⟩
theorem mkS_inj {l m : List Nat} (h : mkS l = mkS m) : l = m := by
  have e := congrArg (fun z : Str => z.cps.toList) h
  exact e
theorem mkS_app (l m : List Nat) : mkS l ++ mkS m = mkS (l ++ m) := TL.ext_tl (by rw [TL.tl_append]; rfl)
theorem mkS_len (l : List Nat) : (mkS l).length = l.length := rfl
theorem mkS_nil : (Str.ofString "" : Str) = mkS [] := by decide +kernel
theorem mkS_zero : (Str.ofString "0" : Str) = mkS [48] := by decide +kernel
theorem mkS_signs : (Str.ofString "0123456789abcdef" : Str) = mkS [48, 49, 50, 51, 52, 53, 54, 55, 56, 57, 97, 98, 99, 100, 101, 102] := by decide +kernel
/-- the figure of a sign, -1 of another one -/
def fig (c : Nat) : Int := Txt.find (Str.ofString "0123456789abcdef") (mkS [c])
def code (d : Nat) : Nat := if d < 10 then 48 + d else 87 + d
theorem fig_code : ∀ d, d < 16 → fig (code d) = (d : Int) := by
  intro d hd
  have h : ∀ d : _root_.Fin 16, fig (code d.val) = (d.val : Int) := by decide +kernel
  exact h ⟨d, hd⟩
theorem code_zero : ∀ d, d < 16 → code d = 48 → d = 0 := by
  intro d hd
  unfold code
  split <;> omega
theorem signs_at : ∀ d : Nat, d < 16 → ([48, 49, 50, 51, 52, 53, 54, 55, 56, 57, 97, 98, 99, 100, 101, 102] : List Nat)[d]? = some (code d) := by
  intro d hd
  have h : ∀ d : _root_.Fin 16, ([48, 49, 50, 51, 52, 53, 54, 55, 56, 57, 97, 98, 99, 100, 101, 102] : List Nat)[d.val]? = some (code d.val) := by decide +kernel
  exact h ⟨d, hd⟩
/-- reading on from m -/
def rd (b : Int) : Int → List Nat → Option Int
  | m, [] => some m
  | m, c :: r => if fig c < 0 ∨ b ≤ fig c then none else rd b (m * b + fig c) r
theorem rd_bad {b m : Int} {c : Nat} {r : List Nat} (h : fig c < 0 ∨ b ≤ fig c) : rd b m (c :: r) = none := by
  show (if fig c < 0 ∨ b ≤ fig c then none else rd b (m * b + fig c) r) = none
  rw [if_pos h]
theorem rd_ok {b m : Int} {c : Nat} {r : List Nat} (h : ¬ (fig c < 0 ∨ b ≤ fig c)) : rd b m (c :: r) = rd b (m * b + fig c) r := by
  show (if fig c < 0 ∨ b ≤ fig c then none else rd b (m * b + fig c) r) = _
  rw [if_neg h]
def readV (b : Int) (l : List Nat) : Option Int := if l = [] ∨ (l.head? = some 48 ∧ 1 < l.length) then none else rd b 0 l
theorem rd_nn {b : Int} (hb : 0 ≤ b) : ∀ (l : List Nat) (m v : Int), 0 ≤ m → rd b m l = some v → 0 ≤ v
  | [], m, v, hm, h => by
    have e : m = v := Option.some.inj h
    omega
  | c :: r, m, v, hm, h => by
    by_cases hc : fig c < 0 ∨ b ≤ fig c
    · rw [rd_bad hc] at h
      cases h
    · rw [rd_ok hc] at h
      have := Int.mul_nonneg hm hb
      exact rd_nn hb r _ v (by omega) h
theorem readV_nn {b : Int} (hb : 0 ≤ b) {l : List Nat} {v : Int} (h : readV b l = some v) : 0 ≤ v := by
  unfold readV at h
  split at h
  · cases h
  · exact rd_nn hb l 0 v (Int.le_refl 0) h
theorem drop_cons {α : Type} {l : List α} {i : Nat} {c : α} (h : l[i]? = some c) : l.drop i = c :: l.drop (i + 1) := by
  obtain ⟨hi, e⟩ := List.getElem?_eq_some_iff.mp h
  rw [List.drop_eq_getElem_cons hi, e]
/-- the bound of what is read so far -/
def rdB (i : Nat) (m : Int) : Prop := 0 ≤ m ∧ m < ((2 ^ (5 * i + 1) : Nat) : Int)
theorem rdB_next {i : Nat} {m b f : Int} (h : rdB i m) (hb0 : 0 ≤ b) (hb : b ≤ 16) (h0 : 0 ≤ f) (hf : f < b) : rdB (i + 1) (m * b + f) := by
  obtain ⟨h1, h2⟩ := h
  have a1 : 0 ≤ m * b := Int.mul_nonneg h1 hb0
  have a2 : m * b ≤ m * 16 := Int.mul_le_mul_of_nonneg_left hb h1
  have e : (2 : Nat) ^ (5 * (i + 1) + 1) = 2 ^ (5 * i + 1) * 32 := by
    rw [show 5 * (i + 1) + 1 = (5 * i + 1) + 5 by omega, Nat.pow_add]
  have p : 0 < 2 ^ (5 * i + 1) := Nat.two_pow_pos _
  refine ⟨by omega, ?_⟩
  rw [e, Int.natCast_mul]
  generalize ((2 ^ (5 * i + 1) : Nat) : Int) = z at *
  omega
theorem rdB_mul {i : Nat} {m b : Int} (h : rdB i m) (hb0 : 0 ≤ b) (hb : b ≤ 16) (hi : i ≤ 1000) : CMulW m b := by
  obtain ⟨h1, h2⟩ := h
  refine wide_mul (a := 5 * i + 1) (b := 5) ?_ ?_ (by omega) (by decide) (by omega)
  · omega
  · have e : (2 : Nat) ^ 5 = 32 := by decide
    omega
theorem dec_empty (l : List Nat) : decide (V.str (mkS l) = V.str (Str.ofString "")) = decide (l = []) := by
  rw [mkS_nil, dec_ss]
  by_cases z : l = []
  · subst z
    simp
  · rw [decide_eq_false z, decide_eq_false (fun y => z (mkS_inj y))]
theorem dec_zero1 (c : Nat) : decide (V.str (mkS [c]) = V.str (Str.ofString "0")) = decide (c = 48) := by
  rw [mkS_zero, dec_ss]
  by_cases z : c = 48
  · subst z
    simp
  · rw [decide_eq_false z, decide_eq_false (fun y => z (by have := mkS_inj y; simpa using this))]
theorem dec_len1 (l : List Nat) : decide ((1 : Int) < ((mkS l).length : Int)) = decide (1 < l.length) := by
  rw [mkS_len]
  exact decide_eq_decide.mpr (by omega)
/-! ### names -/
theorem app_len (x y : Str) : (x ++ y).length = x.length + y.length := by
  rw [TL.len_tl, TL.len_tl, TL.len_tl, TL.tl_append, List.length_append]
theorem strOk_tl (x : Str) : PyData.strOk x = (TL.tl x).all (· < 0x110000) := by
  unfold PyData.strOk
  exact (Array.all_toList ..).symm
theorem nameOk_app {x y : Str} (h1 : PyData.strOk x = true) (h2 : PyData.strOk y = true) : PyData.strOk (x ++ y) = true := by
  rw [strOk_tl] at *
  rw [TL.tl_append, List.all_append, h1, h2]
  rfl
/-- texts put together, nothing between -/
theorem join_ok : ∀ (ys : List Str), (∀ y, y ∈ ys → y.length = 1 ∧ PyData.strOk y = true) → (Txt.join (Str.ofString "") ys).length = ys.length ∧ PyData.strOk (Txt.join (Str.ofString "") ys) = true := by
  intro ys h
  rw [TL.join_eq]
  have e0 : TL.tl (Str.ofString "" : Str) = [] := by decide +kernel
  induction ys with
  | nil => exact ⟨rfl, by decide +kernel⟩
  | cons y r ih =>
    obtain ⟨i1, i2⟩ := ih (fun z hz => h z (List.mem_cons_of_mem _ hz))
    obtain ⟨y1, y2⟩ := h y List.mem_cons_self
    have e : TL.tl (Str.join (Str.ofString "") (y :: r)) = TL.tl y ++ TL.tl (Str.join (Str.ofString "") r) := by
      rw [TL.tl_join, TL.tl_join, e0]
      cases r with
      | nil => simp [TL.joinL]
      | cons z r => simp [TL.joinL]
    rw [TL.len_tl] at i1 y1
    rw [strOk_tl] at i2 y2
    rw [TL.len_tl, strOk_tl, e, List.length_append, List.all_append, i1, y1, i2, y2, List.length_cons]
    exact ⟨Nat.add_comm _ _, rfl⟩
/-! ### the attributes of a store -/
theorem eq_base_last : (("base" : Str) == ("last" : Str)) = false := by decide +kernel
theorem ne_base_last : ¬ (("base" : Str) = ("last" : Str)) := by decide +kernel
theorem eq_base_many : (("base" : Str) == ("many" : Str)) = false := by decide +kernel
theorem ne_base_many : ¬ (("base" : Str) = ("many" : Str)) := by decide +kernel
theorem eq_base_moves : (("base" : Str) == ("moves" : Str)) = false := by decide +kernel
theorem ne_base_moves : ¬ (("base" : Str) = ("moves" : Str)) := by decide +kernel
theorem eq_base_buckets : (("base" : Str) == ("buckets" : Str)) = false := by decide +kernel
theorem ne_base_buckets : ¬ (("base" : Str) = ("buckets" : Str)) := by decide +kernel
theorem eq_last_base : (("last" : Str) == ("base" : Str)) = false := by decide +kernel
theorem ne_last_base : ¬ (("last" : Str) = ("base" : Str)) := by decide +kernel
theorem eq_last_many : (("last" : Str) == ("many" : Str)) = false := by decide +kernel
theorem ne_last_many : ¬ (("last" : Str) = ("many" : Str)) := by decide +kernel
theorem eq_last_moves : (("last" : Str) == ("moves" : Str)) = false := by decide +kernel
theorem ne_last_moves : ¬ (("last" : Str) = ("moves" : Str)) := by decide +kernel
theorem eq_last_buckets : (("last" : Str) == ("buckets" : Str)) = false := by decide +kernel
theorem ne_last_buckets : ¬ (("last" : Str) = ("buckets" : Str)) := by decide +kernel
theorem eq_many_base : (("many" : Str) == ("base" : Str)) = false := by decide +kernel
theorem ne_many_base : ¬ (("many" : Str) = ("base" : Str)) := by decide +kernel
theorem eq_many_last : (("many" : Str) == ("last" : Str)) = false := by decide +kernel
theorem ne_many_last : ¬ (("many" : Str) = ("last" : Str)) := by decide +kernel
theorem eq_many_moves : (("many" : Str) == ("moves" : Str)) = false := by decide +kernel
theorem ne_many_moves : ¬ (("many" : Str) = ("moves" : Str)) := by decide +kernel
theorem eq_many_buckets : (("many" : Str) == ("buckets" : Str)) = false := by decide +kernel
theorem ne_many_buckets : ¬ (("many" : Str) = ("buckets" : Str)) := by decide +kernel
theorem eq_moves_base : (("moves" : Str) == ("base" : Str)) = false := by decide +kernel
theorem ne_moves_base : ¬ (("moves" : Str) = ("base" : Str)) := by decide +kernel
theorem eq_moves_last : (("moves" : Str) == ("last" : Str)) = false := by decide +kernel
theorem ne_moves_last : ¬ (("moves" : Str) = ("last" : Str)) := by decide +kernel
theorem eq_moves_many : (("moves" : Str) == ("many" : Str)) = false := by decide +kernel
theorem ne_moves_many : ¬ (("moves" : Str) = ("many" : Str)) := by decide +kernel
theorem eq_moves_buckets : (("moves" : Str) == ("buckets" : Str)) = false := by decide +kernel
theorem ne_moves_buckets : ¬ (("moves" : Str) = ("buckets" : Str)) := by decide +kernel
theorem eq_buckets_base : (("buckets" : Str) == ("base" : Str)) = false := by decide +kernel
theorem ne_buckets_base : ¬ (("buckets" : Str) = ("base" : Str)) := by decide +kernel
theorem eq_buckets_last : (("buckets" : Str) == ("last" : Str)) = false := by decide +kernel
theorem ne_buckets_last : ¬ (("buckets" : Str) = ("last" : Str)) := by decide +kernel
theorem eq_buckets_many : (("buckets" : Str) == ("many" : Str)) = false := by decide +kernel
theorem ne_buckets_many : ¬ (("buckets" : Str) = ("many" : Str)) := by decide +kernel
theorem eq_buckets_moves : (("buckets" : Str) == ("moves" : Str)) = false := by decide +kernel
theorem ne_buckets_moves : ¬ (("buckets" : Str) = ("moves" : Str)) := by decide +kernel
def sf (b l m v : Int) (bl : Addr) : List (Str × V) := [("base", .int b), ("last", .int l), ("many", .int m), ("moves", .int v), ("buckets", .ref bl)]
theorem sf_base (b l m v : Int) (bl : Addr) : (sf b l m v bl).lookup ("base" : Str) = some (.int b) := by
  unfold sf
  simp only [List.lookup, beq_self_eq_true]
theorem sf_last (b l m v : Int) (bl : Addr) : (sf b l m v bl).lookup ("last" : Str) = some (.int l) := by
  unfold sf
  simp only [List.lookup, eq_last_base, beq_self_eq_true]
theorem sf_many (b l m v : Int) (bl : Addr) : (sf b l m v bl).lookup ("many" : Str) = some (.int m) := by
  unfold sf
  simp only [List.lookup, eq_many_base, eq_many_last, beq_self_eq_true]
theorem sf_moves (b l m v : Int) (bl : Addr) : (sf b l m v bl).lookup ("moves" : Str) = some (.int v) := by
  unfold sf
  simp only [List.lookup, eq_moves_base, eq_moves_last, eq_moves_many, beq_self_eq_true]
theorem sf_buckets (b l m v : Int) (bl : Addr) : (sf b l m v bl).lookup ("buckets" : Str) = some (.ref bl) := by
  unfold sf
  simp only [List.lookup, eq_buckets_base, eq_buckets_last, eq_buckets_many, eq_buckets_moves, beq_self_eq_true]
theorem sf_put_last (b l m v z : Int) (bl : Addr) : putF "last" (.int z) (sf b l m v bl) = sf b z m v bl := by
  unfold sf
  simp only [putF, if_neg ne_base_last, if_true]
theorem sf_put_many (b l m v z : Int) (bl : Addr) : putF "many" (.int z) (sf b l m v bl) = sf b l z v bl := by
  unfold sf
  simp only [putF, if_neg ne_base_many, if_neg ne_last_many, if_true]
theorem sf_put_moves (b l m v z : Int) (bl : Addr) : putF "moves" (.int z) (sf b l m v bl) = sf b l m z bl := by
  unfold sf
  simp only [putF, if_neg ne_base_moves, if_neg ne_last_moves, if_neg ne_many_moves, if_true]
theorem sf_no (b l m v : Int) (bl : Addr) {k : Str} (h1 : (k == ("base" : Str)) = false) (h2 : (k == ("last" : Str)) = false) (h3 : (k == ("many" : Str)) = false) (h4 : (k == ("moves" : Str)) = false) (h5 : (k == ("buckets" : Str)) = false) : (sf b l m v bl).lookup k = none := by
  unfold sf
  simp only [List.lookup, h1, h2, h3, h4, h5]
theorem sf_len (b l m v : Int) (bl : Addr) : (sf b l m v bl).length < 1000 := by
  show 5 < 1000
  decide
theorem sf_make (b : Int) (bl : Addr) : putF "buckets" (.ref bl) (putF "moves" (.int 0) (putF "many" (.int 0) (putF "last" (.int 0) (putF "base" (.int b) [])))) = sf b 0 0 0 bl := by
  unfold sf
  simp only [putF, if_neg ne_base_last, if_neg ne_base_many, if_neg ne_base_moves, if_neg ne_base_buckets, if_neg ne_last_many, if_neg ne_last_moves, if_neg ne_last_buckets, if_neg ne_many_moves, if_neg ne_many_buckets, if_neg ne_moves_buckets]
theorem sf_m_room (b l m v : Int) (bl : Addr) : (sf b l m v bl).lookup ("room" : Str) = none := sf_no b l m v bl (by decide +kernel) (by decide +kernel) (by decide +kernel) (by decide +kernel) (by decide +kernel)
theorem sf_m_put (b l m v : Int) (bl : Addr) : (sf b l m v bl).lookup ("put" : Str) = none := sf_no b l m v bl (by decide +kernel) (by decide +kernel) (by decide +kernel) (by decide +kernel) (by decide +kernel)
theorem sf_m_lowest (b l m v : Int) (bl : Addr) : (sf b l m v bl).lookup ("lowest" : Str) = none := sf_no b l m v bl (by decide +kernel) (by decide +kernel) (by decide +kernel) (by decide +kernel) (by decide +kernel)
theorem sf_m_fall (b l m v : Int) (bl : Addr) : (sf b l m v bl).lookup ("fall" : Str) = none := sf_no b l m v bl (by decide +kernel) (by decide +kernel) (by decide +kernel) (by decide +kernel) (by decide +kernel)
theorem sf_m_take (b l m v : Int) (bl : Addr) : (sf b l m v bl).lookup ("take" : Str) = none := sf_no b l m v bl (by decide +kernel) (by decide +kernel) (by decide +kernel) (by decide +kernel) (by decide +kernel)
theorem sf_m_least (b l m v : Int) (bl : Addr) : (sf b l m v bl).lookup ("least" : Str) = none := sf_no b l m v bl (by decide +kernel) (by decide +kernel) (by decide +kernel) (by decide +kernel) (by decide +kernel)
theorem sf_m_rows (b l m v : Int) (bl : Addr) : (sf b l m v bl).lookup ("rows" : Str) = none := sf_no b l m v bl (by decide +kernel) (by decide +kernel) (by decide +kernel) (by decide +kernel) (by decide +kernel)
/-! ### things, buckets and stores in the heap -/
def NameOk (x : Str) : Prop := x.length ≤ 1000 ∧ PyData.strOk x = true
def ThAt (H : Hp) (t : Addr) (h : Th Str) : Prop := H t = some (.lst [.int h.n, .str h.x, .int h.c]) ∧ NameOk h.x
/-- the objects at the addresses bear the data, one by one -/
def Ls {β : Type} (R : Addr → β → Prop) : List Addr → List β → Prop
  | [], [] => True
  | t :: ts, h :: hs => R t h ∧ Ls R ts hs
  | _, _ => False
section
variable {β : Type} {R R' : Addr → β → Prop}
theorem Ls.len : ∀ {ts : List Addr} {hs : List β}, Ls R ts hs → ts.length = hs.length
  | [], [], _ => rfl
  | t :: ts, h :: hs, q => by rw [List.length_cons, List.length_cons, Ls.len q.2]
  | [], _ :: _, q => q.elim
  | _ :: _, [], q => q.elim
theorem Ls.get : ∀ {ts : List Addr} {hs : List β} {i : Nat} {t : Addr}, Ls R ts hs → ts[i]? = some t → ∃ h, hs[i]? = some h ∧ R t h
  | [], [], i, t, _, e => by simp at e
  | t :: ts, h :: hs, 0, u, q, e => by
    have e' : t = u := by simpa using e
    subst e'
    exact ⟨h, rfl, q.1⟩
  | t :: ts, h :: hs, i + 1, u, q, e => Ls.get (ts := ts) (hs := hs) (i := i) q.2 (by simpa using e)
  | [], _ :: _, _, _, q, _ => q.elim
  | _ :: _, [], _, _, q, _ => q.elim
theorem Ls.getR : ∀ {ts : List Addr} {hs : List β} {i : Nat} {h : β}, Ls R ts hs → hs[i]? = some h → ∃ t, ts[i]? = some t ∧ R t h
  | [], [], i, t, _, e => by simp at e
  | t :: ts, h :: hs, 0, u, q, e => by
    have e' : h = u := by simpa using e
    subst e'
    exact ⟨t, rfl, q.1⟩
  | t :: ts, h :: hs, i + 1, u, q, e => Ls.getR (ts := ts) (hs := hs) (i := i) q.2 (by simpa using e)
  | [], _ :: _, _, _, q, _ => q.elim
  | _ :: _, [], _, _, q, _ => q.elim
theorem Ls.mono (k : ∀ t h, R t h → R' t h) : ∀ {ts : List Addr} {hs : List β}, Ls R ts hs → Ls R' ts hs
  | [], [], _ => trivial
  | t :: ts, h :: hs, q => ⟨k t h q.1, Ls.mono k q.2⟩
  | [], _ :: _, q => q.elim
  | _ :: _, [], q => q.elim
theorem Ls.app {t : Addr} {h : β} (a : R t h) : ∀ {ts : List Addr} {hs : List β}, Ls R ts hs → Ls R (ts ++ [t]) (hs ++ [h])
  | [], [], _ => ⟨a, trivial⟩
  | t :: ts, h :: hs, q => ⟨q.1, Ls.app a q.2⟩
  | [], _ :: _, q => q.elim
  | _ :: _, [], q => q.elim
theorem Ls.cat : ∀ {ts us : List Addr} {hs gs : List β}, Ls R ts hs → Ls R us gs → Ls R (ts ++ us) (hs ++ gs)
  | [], us, [], gs, _, b => b
  | t :: ts, us, h :: hs, gs, q, b => ⟨q.1, Ls.cat q.2 b⟩
  | [], _, _ :: _, _, q, _ => q.elim
  | _ :: _, _, [], _, q, _ => q.elim
theorem Ls.drop : ∀ (i : Nat) {ts : List Addr} {hs : List β}, Ls R ts hs → Ls R (ts.drop i) (hs.drop i)
  | 0, ts, hs, q => q
  | i + 1, [], [], _ => by simp [Ls]
  | i + 1, t :: ts, h :: hs, q => Ls.drop i q.2
  | _ + 1, [], _ :: _, q => q.elim
  | _ + 1, _ :: _, [], q => q.elim
theorem Ls.take : ∀ (i : Nat) {ts : List Addr} {hs : List β}, Ls R ts hs → Ls R (ts.take i) (hs.take i)
  | 0, ts, hs, _ => by rw [List.take_zero, List.take_zero]; trivial
  | i + 1, [], [], _ => by simp [Ls]
  | i + 1, t :: ts, h :: hs, q => ⟨q.1, Ls.take i q.2⟩
  | _ + 1, [], _ :: _, q => q.elim
  | _ + 1, _ :: _, [], q => q.elim
end
abbrev Ths (H : Hp) : List Addr → List (Th Str) → Prop := Ls (ThAt H)
/-- a list of addresses is none of a thing's -/
theorem th_ne {H : Hp} {t b : Addr} {h : Th Str} {ts : List Addr} (a : ThAt H t h) (e : H b = some (.lst (ts.map V.ref))) : t ≠ b := by
  refine ne_of a.1 e fun z => ?_
  have z2 : [V.int h.n, V.str h.x, V.int h.c] = ts.map V.ref := HO.lst.inj z
  cases ts with
  | nil => cases z2
  | cons u r => cases (List.cons.inj z2).1
theorem th_ne_ins {H : Hp} {t b C dx : Addr} {h : Th Str} {fs : List (Str × V)} (a : ThAt H t h) (e : H b = some (.ins C dx fs)) : t ≠ b := ne_of a.1 e fun z => nomatch z
def BkAt (H : Hp) (b : Addr) (hs : List (Th Str)) : Prop := ∃ ts : List Addr, H b = some (.lst (ts.map V.ref)) ∧ Ths H ts hs
/-- the buckets bs hold the lists bk -/
structure BksAt (H : Hp) (bl : Addr) (bs : List Addr) (bk : List (List (Th Str))) : Prop where
  li : H bl = some (.lst (bs.map V.ref))
  nd : (bl :: bs).Nodup
  len : bs.length = bk.length
  at_ : ∀ (j : Nat) (b : Addr), bs[j]? = some b → BkAt H b (bk.getD j [])
structure StoreAt (C : Addr) (H : Hp) (p bl : Addr) (bs : List Addr) (S : Sto Str) : Prop where
  ob : ∃ dx, H p = some (.ins C dx (sf S.base S.last S.many S.moves bl))
  bk : BksAt H bl bs S.bk
/-- what is no part of the store stands, and becomes no part of it -/
def Kp (F : List Addr) (H : Hp) (F' : List Addr) (H' : Hp) : Prop := ∀ c o, H c = some o → c ∉ F → H' c = some o ∧ c ∉ F'
theorem Kp.refl (F : List Addr) (H : Hp) : Kp F H F H := fun _ _ e h => ⟨e, h⟩
theorem Kp.trans {F G J : List Addr} {H H1 H2 : Hp} (a : Kp F H G H1) (b : Kp G H1 J H2) : Kp F H J H2 := fun c o e h => b c o (a c o e h).1 (a c o e h).2
theorem Kp.same {F : List Addr} {H H' : Hp} (s : Same H H') : Kp F H F H' := fun c o e h => ⟨s c o e, h⟩
theorem StoreAt.p_bl {C : Addr} {H : Hp} {p bl : Addr} {bs : List Addr} {S : Sto Str} (A : StoreAt C H p bl bs S) : p ≠ bl := by
  obtain ⟨dx, e⟩ := A.ob
  exact ne_of e A.bk.li (by intro z; cases z)
theorem BksAt.mem {H : Hp} {bl : Addr} {bs : List Addr} {bk : List (List (Th Str))} (A : BksAt H bl bs bk) {b : Addr} (h : b ∈ bs) : ∃ ts : List Addr, H b = some (.lst (ts.map V.ref)) := by
  obtain ⟨j, hj, e⟩ := List.mem_iff_getElem.mp h
  obtain ⟨ts, e2, _⟩ := A.at_ j b (by rw [List.getElem?_eq_getElem hj, e])
  exact ⟨ts, e2⟩
theorem StoreAt.p_bs {C : Addr} {H : Hp} {p bl : Addr} {bs : List Addr} {S : Sto Str} (A : StoreAt C H p bl bs S) : p ∉ bs := fun h => by
  obtain ⟨dx, e⟩ := A.ob
  obtain ⟨ts, e2⟩ := A.bk.mem h
  rw [e] at e2
  cases e2
theorem BksAt.get {H : Hp} {bl : Addr} {bs : List Addr} {bk : List (List (Th Str))} (A : BksAt H bl bs bk) {j : Nat} (h : j < bk.length) : ∃ b ts, bs[j]? = some b ∧ H b = some (.lst (ts.map V.ref)) ∧ Ths H ts (bk.getD j []) ∧ b ∈ bs ∧ b ≠ bl := by
  have hj : j < bs.length := by rw [A.len]; exact h
  have e : bs[j]? = some bs[j] := List.getElem?_eq_getElem hj
  obtain ⟨ts, e2, q⟩ := A.at_ j _ e
  have hm : bs[j] ∈ bs := List.getElem_mem hj
  exact ⟨bs[j], ts, e, e2, q, hm, fun z => (List.nodup_cons.mp A.nd).1 (by rw [← z]; exact hm)⟩
/-- a thing at t is no part of a store -/
theorem BksAt.th_out {H : Hp} {bl : Addr} {bs : List Addr} {bk : List (List (Th Str))} (A : BksAt H bl bs bk) {t : Addr} {h : Th Str} (q : ThAt H t h) : t ∉ bl :: bs := fun z => by
  rcases List.mem_cons.mp z with rfl | z
  · exact th_ne q A.li rfl
  · obtain ⟨ts, e⟩ := A.mem z
    exact th_ne q e rfl
theorem StoreAt.th_out {C : Addr} {H : Hp} {p bl : Addr} {bs : List Addr} {S : Sto Str} (A : StoreAt C H p bl bs S) {t : Addr} {h : Th Str} (q : ThAt H t h) : t ∉ p :: bl :: bs := fun z => by
  rcases List.mem_cons.mp z with rfl | z
  · obtain ⟨dx, e⟩ := A.ob
    exact th_ne_ins q e rfl
  · exact A.bk.th_out q z
/-- all objects of the buckets stand: so do the buckets -/
theorem BksAt.keep {H H' : Hp} {bl : Addr} {bs : List Addr} {bk : List (List (Th Str))} (A : BksAt H bl bs bk) (k : ∀ b xs, H b = some (.lst xs) → H' b = some (.lst xs)) : BksAt H' bl bs bk := by
  refine ⟨k _ _ A.li, A.nd, A.len, fun j b e => ?_⟩
  obtain ⟨ts, e2, q⟩ := A.at_ j b e
  exact ⟨ts, k _ _ e2, q.mono fun t h a => ⟨k _ _ a.1, a.2⟩⟩
theorem StoreAt.keep {C : Addr} {H H' : Hp} {p bl : Addr} {bs : List Addr} {S : Sto Str} (A : StoreAt C H p bl bs S) (k : Same H H') : StoreAt C H' p bl bs S := by
  obtain ⟨dx, e⟩ := A.ob
  exact ⟨⟨dx, k _ _ e⟩, A.bk.keep fun b xs e => k b _ e⟩
theorem ths_upd {H : Hp} {a : Addr} {o : HO} {ts : List Addr} {hs : List (Th Str)} (q : Ths H ts hs) (n : ∀ t h, ThAt H t h → t ≠ a) : Ths (upd H a o) ts hs :=
  q.mono fun t h z => ⟨by rw [upd_ne (n t h z)]; exact z.1, z.2⟩
theorem nodup_set {γ : Type} : ∀ {l : List γ} {k : Nat} {b : γ}, l.Nodup → b ∉ l → (l.set k b).Nodup
  | [], _, _, h, _ => by simpa using h
  | a :: r, 0, b, h, hb => by
    rw [List.set_cons_zero]
    obtain ⟨h1, h2⟩ := List.nodup_cons.mp h
    exact List.nodup_cons.mpr ⟨fun z => hb (List.mem_cons_of_mem _ z), h2⟩
  | a :: r, k + 1, b, h, hb => by
    rw [List.set_cons_succ]
    obtain ⟨h1, h2⟩ := List.nodup_cons.mp h
    refine List.nodup_cons.mpr ⟨fun z => ?_, nodup_set h2 fun z => hb (List.mem_cons_of_mem _ z)⟩
    rcases List.mem_or_eq_of_mem_set z with z | z
    · exact h1 z
    · exact hb (by rw [← z]; exact List.mem_cons_self)
theorem kp_upd {F : List Addr} {H : Hp} {a : Addr} {o : HO} (h : a ∈ F) : Kp F H F (upd H a o) := fun c u e n => ⟨by rw [upd_ne (fun z => n (by rw [z]; exact h))]; exact e, n⟩
theorem kp_new {F : List Addr} {H : Hp} {l : Addr} {o : HO} (h : H l = none) : Kp F H F (upd H l o) := fun c u e n => ⟨by rw [upd_ne (ne_of_none e h)]; exact e, n⟩
theorem kp_more {F G : List Addr} {H : Hp} (k : ∀ c, c ∈ G → c ∈ F ∨ H c = none) : Kp F H G H := fun c u e n => ⟨e, fun z => (k c z).elim n fun q => by rw [q] at e; cases e⟩
theorem BksAt.set_ins {H : Hp} {bl p C dx : Addr} {bs : List Addr} {bk : List (List (Th Str))} {fs fs' : List (Str × V)} (A : BksAt H bl bs bk) (hp : H p = some (.ins C dx fs)) : BksAt (upd H p (.ins C dx fs')) bl bs bk :=
  A.keep fun b xs e => by
    rw [upd_ne (ne_of e hp (by intro z; cases z))]
    exact e
/-- one bucket more -/
theorem BksAt.grow {H : Hp} {bl l : Addr} {bs : List Addr} {bk : List (List (Th Str))} (A : BksAt H bl bs bk) (hl : H l = none) :
    BksAt (upd (upd H l (.lst [])) bl (.lst (bs.map V.ref ++ [.ref l]))) bl (bs ++ [l]) (bk ++ [[]]) := by
  have nbl : bl ≠ l := ne_of_none A.li hl
  have nm : ∀ b, b ∈ bs → b ≠ l := fun b hb => by
    obtain ⟨ts, e⟩ := A.mem hb
    exact ne_of_none e hl
  have nb : ∀ b, b ∈ bs → b ≠ bl := fun b hb z => (List.nodup_cons.mp A.nd).1 (by rw [← z]; exact hb)
  refine ⟨?_, ?_, ?_, fun j b e => ?_⟩
  · rw [upd_same, List.map_append]
    rfl
  · obtain ⟨n1, n2⟩ := List.nodup_cons.mp A.nd
    refine List.nodup_cons.mpr ⟨fun z => ?_, List.nodup_append.mpr ⟨n2, by simp, fun a ha b hb => ?_⟩⟩
    · rcases List.mem_append.mp z with z | z
      · exact n1 z
      · exact nbl (by simpa using z)
    · have eb : b = l := by simpa using hb
      rw [eb]
      exact nm a ha
  · rw [List.length_append, List.length_append, A.len]
    rfl
  · by_cases hj : j < bs.length
    · rw [List.getElem?_append_left hj] at e
      have hb : b ∈ bs := List.mem_of_getElem? e
      obtain ⟨ts, e2, q⟩ := A.at_ j b e
      have eg : (bk ++ [[]]).getD j [] = bk.getD j [] := by
        rw [List.getD_eq_getElem?_getD, List.getD_eq_getElem?_getD, List.getElem?_append_left (by rw [← A.len]; exact hj)]
      rw [eg]
      refine ⟨ts, by rw [upd_ne (nb b hb), upd_ne (nm b hb)]; exact e2, ?_⟩
      exact q.mono fun t h z => ⟨by rw [upd_ne (th_ne z A.li), upd_ne (ne_of_none z.1 hl)]; exact z.1, z.2⟩
    · have hj2 : j = bs.length := by
        have := (List.getElem?_eq_some_iff.mp e).1
        rw [List.length_append] at this
        simp at this
        omega
      subst hj2
      rw [List.getElem?_append_right (Nat.le_refl _)] at e
      have eb : l = b := by simpa using e
      subst eb
      have eg : (bk ++ [[]]).getD bs.length [] = [] := by
        rw [List.getD_eq_getElem?_getD, A.len, List.getElem?_append_right (Nat.le_refl _)]
        simp
      rw [eg]
      exact ⟨[], by rw [upd_ne nbl.symm, upd_same]; rfl, trivial⟩
/-- a new thing behind those of a bucket -/
theorem BksAt.push {H : Hp} {bl b t : Addr} {bs ts : List Addr} {bk : List (List (Th Str))} {k : Nat} (A : BksAt H bl bs bk) (hb : bs[k]? = some b) (e : H b = some (.lst (ts.map V.ref))) (q : Ths H ts (bk.getD k [])) (ht : H t = none) (h : Th Str) (ok : NameOk h.x) :
    BksAt (upd (upd H t (.lst [.int h.n, .str h.x, .int h.c])) b (.lst (ts.map V.ref ++ [.ref t]))) bl bs (addAt bk k h) := by
  have hk : k < bk.length := by rw [← A.len]; exact (List.getElem?_eq_some_iff.mp hb).1
  have hm : b ∈ bs := List.mem_of_getElem? hb
  have nbl : bl ≠ b := fun z => (List.nodup_cons.mp A.nd).1 (by rw [z]; exact hm)
  have nbt : b ≠ t := ne_of_none e ht
  have nth : ∀ u g, ThAt H u g → ThAt (upd (upd H t (.lst [.int h.n, .str h.x, .int h.c])) b (.lst (ts.map V.ref ++ [.ref t]))) u g := fun u g z =>
    ⟨by rw [upd_ne (th_ne z e), upd_ne (ne_of_none z.1 ht)]; exact z.1, z.2⟩
  refine ⟨by rw [upd_ne nbl, upd_ne (ne_of_none A.li ht)]; exact A.li, A.nd, by rw [addAt_len]; exact A.len, fun j c ec => ?_⟩
  rw [addAt_getD _ hk]
  by_cases hj : j = k
  · subst hj
    rw [if_pos rfl]
    have ecb : b = c := Option.some.inj (hb.symm.trans ec)
    subst ecb
    refine ⟨ts ++ [t], ?_, (q.mono nth).app ⟨?_, ok⟩⟩
    · rw [upd_same, List.map_append]
      rfl
    · rw [upd_ne nbt.symm, upd_same]
  · rw [if_neg hj]
    obtain ⟨us, e2, q2⟩ := A.at_ j c ec
    have ncb : c ≠ b := fun z => hj (nd_ix (List.nodup_cons.mp A.nd).2 ec (by rw [z]; exact hb))
    exact ⟨us, by rw [upd_ne ncb, upd_ne (ne_of_none e2 ht)]; exact e2, q2.mono nth⟩
/-- another list of things in the place of a bucket -/
theorem BksAt.swap {H : Hp} {bl b : Addr} {bs ts : List Addr} {bk : List (List (Th Str))} {k : Nat} (A : BksAt H bl bs bk) (hk : k < bk.length) (e : H b = some (.lst (ts.map V.ref))) {hs : List (Th Str)} (q : Ths H ts hs) (nb : b ∉ bl :: bs) :
    BksAt (upd H bl (.lst ((bs.map V.ref).set k (.ref b)))) bl (bs.set k b) (bk.set k hs) := by
  obtain ⟨n1, n2⟩ := List.nodup_cons.mp A.nd
  have nth : ∀ u g, ThAt H u g → ThAt (upd H bl (.lst ((bs.map V.ref).set k (.ref b)))) u g := fun u g z => ⟨by rw [upd_ne (th_ne z A.li)]; exact z.1, z.2⟩
  refine ⟨?_, List.nodup_cons.mpr ⟨fun z => ?_, ?_⟩, by rw [List.length_set, List.length_set]; exact A.len, fun j c ec => ?_⟩
  · rw [upd_same, List.map_set]
  · rcases List.mem_or_eq_of_mem_set z with z | z
    · exact n1 z
    · exact nb (by rw [z]; exact List.mem_cons_self)
  · exact nodup_set n2 (fun z => nb (List.mem_cons_of_mem _ z))
  · rw [set_getD]
    by_cases hj : j = k
    · subst hj
      rw [if_pos ⟨rfl, hk⟩]
      rw [List.getElem?_set_self (by rw [A.len]; exact hk)] at ec
      have ecb : b = c := Option.some.inj ec
      subst ecb
      exact ⟨ts, by rw [upd_ne (fun z => nb (by rw [z]; exact List.mem_cons_self))]; exact e, q.mono nth⟩
    · rw [if_neg (fun z => hj z.1)]
      rw [List.getElem?_set_ne (fun z => hj z.symm)] at ec
      obtain ⟨us, e2, q2⟩ := A.at_ j c ec
      exact ⟨us, by rw [upd_ne (fun z => n1 (by rw [← z]; exact List.mem_of_getElem? ec))]; exact e2, q2.mono nth⟩
theorem kp_grow {p bl l : Addr} {bs : List Addr} {H : Hp} {o o2 : HO} (hl : H l = none) : Kp (p :: bl :: bs) H (p :: bl :: (bs ++ [l])) (upd (upd H l o) bl o2) := fun c u e n => by
  have n1 : c ≠ l := ne_of_none e hl
  have n2 : c ≠ bl := fun z => n (by rw [z]; simp)
  refine ⟨by rw [upd_ne n2, upd_ne n1]; exact e, fun z => ?_⟩
  rcases List.mem_cons.mp z with z | z
  · exact n (by rw [z]; simp)
  · rcases List.mem_cons.mp z with z | z
    · exact n2 z
    · rcases List.mem_append.mp z with z | z
      · exact n (by simp [z])
      · exact n1 (by simpa using z)
theorem map_ref_inj : ∀ {l m : List Addr}, l.map V.ref = m.map V.ref → l = m
  | [], [], _ => rfl
  | [], _ :: _, h => by simp at h
  | _ :: _, [], h => by simp at h
  | a :: l, b :: m, h => by
    rw [List.map_cons, List.map_cons] at h
    obtain ⟨h1, h2⟩ := List.cons.inj h
    rw [V.ref.inj h1, map_ref_inj h2]
/-- a row that is told -/
def RowAt (H : Hp) (t : Addr) (r : Nat × Th Str) : Prop := H t = some (.tup [.int r.1, .int r.2.n, .str r.2.x, .int r.2.c]) ∧ NameOk r.2.x
theorem ixN_nat {n k : Nat} (h : k < n) : ixN n (k : Int) = some k := by
  have e : atI (List.range n) (k : Int) = some k := atI_nat (by rw [List.getElem?_range h])
  unfold atI at e
  rw [List.length_range] at e
  cases z : ixN n (k : Int) with
  | none =>
    rw [z] at e
    cases e
  | some j =>
    rw [z] at e
    have e2 : (List.range n)[j]? = some k := e
    obtain ⟨hj, ej⟩ := List.getElem?_eq_some_iff.mp e2
    rw [List.getElem_range] at ej
    rw [ej]
theorem get_refs {us : List Addr} {i : Nat} {y : V} (h : (us.map V.ref)[i]? = some y) : ∃ u, us[i]? = some u ∧ y = V.ref u := by
  rw [List.getElem?_map] at h
  cases e : us[i]? with
  | none =>
    rw [e] at h
    cases h
  | some u =>
    rw [e] at h
    exact ⟨u, rfl, (Option.some.inj h).symm⟩
theorem StoreAt.tup_out {C : Addr} {H : Hp} {p bl c : Addr} {bs : List Addr} {S : Sto Str} {xs : List V} (A : StoreAt C H p bl bs S) (e : H c = some (.tup xs)) : c ∉ p :: bl :: bs := fun z => by
  obtain ⟨dx, o⟩ := A.ob
  rcases List.mem_cons.mp z with z | z
  · rw [z, o] at e
    cases e
  · rcases List.mem_cons.mp z with z | z
    · rw [z, A.bk.li] at e
      cases e
    · obtain ⟨ts, o2⟩ := A.bk.mem z
      rw [o2] at e
      cases e
/-- a list of the law's own is written -/
theorem StoreAt.upd_out {C : Addr} {H : Hp} {p bl d : Addr} {bs : List Addr} {S : Sto Str} {ds : List Addr} {o : HO} (A : StoreAt C H p bl bs S) (hd : d ∉ p :: bl :: bs) (ed : H d = some (.lst (ds.map V.ref))) : StoreAt C (upd H d o) p bl bs S := by
  obtain ⟨dx, ob⟩ := A.ob
  have np : p ≠ d := fun z => hd (by rw [z]; simp)
  have nb : bl ≠ d := fun z => hd (by rw [z]; simp)
  refine ⟨⟨dx, by rw [upd_ne np]; exact ob⟩, by rw [upd_ne nb]; exact A.bk.li, A.bk.nd, A.bk.len, fun j b e => ?_⟩
  obtain ⟨ts, e2, q⟩ := A.bk.at_ j b e
  have nbd : b ≠ d := fun z => hd (by rw [← z]; simp [List.mem_of_getElem? e])
  exact ⟨ts, by rw [upd_ne nbd]; exact e2, ths_upd q fun t h z => th_ne z ed⟩
theorem StoreAt.new_out {C : Addr} {H : Hp} {p bl d : Addr} {bs : List Addr} {S : Sto Str} (A : StoreAt C H p bl bs S) (hd : H d = none) : d ∉ p :: bl :: bs := fun z => by
  obtain ⟨dx, o⟩ := A.ob
  rcases List.mem_cons.mp z with z | z
  · rw [z, o] at hd
    cases hd
  · rcases List.mem_cons.mp z with z | z
    · rw [z, A.bk.li] at hd
      cases hd
    · obtain ⟨ts, o2⟩ := A.bk.mem z
      rw [o2] at hd
      cases hd
/-! ### what the laws build -/
/-- a thing as it is handed in: its number, its name -/
def PairAt (H : Hp) (t : Addr) (r : Nat × Str) : Prop := H t = some (.tup [.int r.1, .str r.2]) ∧ NameOk r.2
theorem pairs_same {H H' : Hp} (s : Same H H') {us : List Addr} {th : List (Nat × Str)} (q : Ls (PairAt H) us th) : Ls (PairAt H') us th := q.mono fun _ _ z => ⟨s _ _ z.1, z.2⟩
theorem num_fin {Q : VK} {H : Hp} {c m : Int} (hm : 0 < m) (hb : m ≤ 2 ^ 900) (q : ∀ (n : Nat) (H' : Hp), n < 2 ^ 900 → Same H H' → Q (.int n) H') : Q (.int (c % m)) H := by
  obtain ⟨n, e, lt⟩ := modn c hm
  rw [e]
  exact q n H (small900 lt hb) (Same.refl H)
/-- rows as they are told, kept -/
def TupAt (H : Hp) (u : Addr) : Prop := ∃ xs, H u = some (.tup xs)
theorem pairs_kp {C : Addr} {H H' : Hp} {p bl : Addr} {bs F' : List Addr} {S : Sto Str} (A : StoreAt C H p bl bs S) (k : Kp (p :: bl :: bs) H F' H') {us : List Addr} {th : List (Nat × Str)} (q : Ls (PairAt H) us th) : Ls (PairAt H') us th :=
  q.mono fun _ _ z => ⟨(k _ _ z.1 (A.tup_out z.1)).1, z.2⟩
theorem kp_made {x dx C bl : Addr} {H H2 : Hp} (nx : H x = none) (ndx : H dx = none) (k : Kp [x] (upd (upd H dx (.own x)) x (.ins C dx [])) [x, bl] H2) : Kp [] H [x, bl] H2 := fun c o e _ => by
  have n1 : c ≠ x := ne_of_none e nx
  have n2 : c ≠ dx := ne_of_none e ndx
  exact k c o (by rw [upd_ne n1, upd_ne n2]; exact e) (by simpa using n1)
theorem dropd {β : Type} {l : List β} {n i : Nat} (h : n = i) (hl : i = l.length) : l.take n = l := List.take_of_length_le (by omega)
/-! ### rows compared -/
def rowD (r : Nat × Th Str) : PyData := .tuple [.int r.1, .int r.2.n, .str r.2.x, .int r.2.c]
theorem row_dp {K : PySem.W.Frag} {H : Hp} {u : Addr} {r : Nat × Th Str} (a : RowAt H u r) : Dp K H (.ref u) (rowD r) := .tup (SqT.of a.1) (.cons (.int _) (.cons (.int _) (.cons (.str _) (.cons (.int _) .nil))))
theorem row_shaped {r : Nat × Th Str} (h : NameOk r.2.x) : SeqAt.shaped (rowD r) = true := by
  unfold SeqAt.shaped rowD
  simp [PyData.canLay0, PyData.canLayAll0, PyData.depth, PyData.depthAll, h.2]
theorem row_eqv (r : Nat × Th Str) : PyData.eqv (rowD r) (rowD r) = true := by
  unfold rowD
  simp [PyData.eqv, PyData.eqvAll]
theorem rowsFrom_ok : ∀ {bk : List (List (Th Str))} {i : Nat}, (∀ j h, h ∈ bk.getD j [] → NameOk h.x) → ∀ q, q ∈ rowsFrom i bk → NameOk q.2.x
  | [], i, _, q, h => by cases h
  | hs :: r, i, k, q, h => by
    have h' : q ∈ hs.map (fun g => (i, g)) ++ rowsFrom (i + 1) r := h
    rcases List.mem_append.mp h' with z | z
    · obtain ⟨g, hg, rfl⟩ := List.mem_map.mp z
      exact k 0 g hg
    · exact rowsFrom_ok (bk := r) (i := i + 1) (fun j h hm => k (j + 1) h hm) q z
/-! ### max(xs, default=d) of whole numbers -/
def rMaxD (K : PySem.W.Frag) : List V → List V → Hp → VK → Prop := fun xs zs H Q => ∃ (p : Addr) (ns : List Int) (d : Int), xs = [V.ref p] ∧ zs = [V.int d] ∧ SqL K H p (ns.map V.int) ∧ ∀ m, ((ns = [] ∧ m = d) ∨ (m ∈ ns ∧ ∀ y, y ∈ ns → y ≤ m)) → Q (.int m) H
theorem maxOf_spec : ∀ (ys : List Int) (y : Int), PySem.W.maxOf y ys ∈ y :: ys ∧ ∀ z, z ∈ y :: ys → z ≤ PySem.W.maxOf y ys
  | [], y => ⟨List.mem_cons_self, fun z hz => by
    have e : z = y := by simpa using hz
    subst e
    exact Int.le_refl _⟩
  | w :: ys, y => by
    have e : PySem.W.maxOf y (w :: ys) = PySem.W.maxOf (if y < w then w else y) ys := by
      show ys.foldl _ (if PySem.W.DatumOrd.lt y w = true then w else y) = _
      have e2 : (PySem.W.DatumOrd.lt y w = true) = (y < w) := by
        show (decide (y < w) = true) = _
        exact decide_eq_true_eq
      simp only [e2]
      rfl
    rw [e]
    obtain ⟨i1, i2⟩ := maxOf_spec ys (if y < w then w else y)
    refine ⟨?_, fun z hz => ?_⟩
    · rcases List.mem_cons.mp i1 with h | h
      · rw [h]
        split
        · exact List.mem_cons_of_mem _ List.mem_cons_self
        · exact List.mem_cons_self
      · exact List.mem_cons_of_mem _ (List.mem_cons_of_mem _ h)
    · have t : y ≤ PySem.W.maxOf (if y < w then w else y) ys ∧ w ≤ PySem.W.maxOf (if y < w then w else y) ys := by
        have t0 := i2 (if y < w then w else y) List.mem_cons_self
        have t1 : y ≤ (if y < w then w else y) ∧ w ≤ (if y < w then w else y) := by split <;> omega
        omega
      rcases List.mem_cons.mp hz with h | h
      · rw [h]
        exact t.1
      · rcases List.mem_cons.mp h with h | h
        · rw [h]
          exact t.2
        · exact i2 z (List.mem_cons_of_mem _ h)
theorem call_maxD {X : Cx} (hc : X.calm = true) (hu : X.A.units + 64 < cLine) : CallRK X (.builtin "max") ["default"] (rMaxD X.K) := by
  intro pins s σ H xs zs us ws Q I r rz h
  obtain ⟨p, ns, d, rfl, rfl, hs, q1⟩ := h
  obtain ⟨its, rv, pl, _⟩ := I.list hs
  obtain ⟨u, rfl, ru⟩ := vals1 r
  obtain ⟨w, rfl, rw1⟩ := vals1 rz
  cases ru
  have ri := rv.ints
  refine PySem.W.max_list_datum_default (α := Int) (I.ok.hd hc) pl.isList (PySem.W.HoldAll.of_ints ri) (by show X.A.units + 1 + 0 < cLine; omega) (fun e h' tk k => ?_) fun y ys i v h' tk e _ hv k => ?_
  · exact ⟨_, H, I.kept k, rw1, q1 _ (Or.inl ⟨e, rfl⟩)⟩
  · obtain ⟨t, rfl⟩ := PySem.W.int_of_holds hv
    obtain ⟨m1, m2⟩ := maxOf_spec ys y
    rw [← e] at m1 m2
    exact ⟨.int (PySem.W.maxOf y ys), H, I.kept k, ⟨t, rfl⟩, q1 _ (Or.inr ⟨m1, m2⟩)⟩
/-! ### a store that holds the things of a plain list -/
structure Led (C : Addr) (H : Hp) (p bl : Addr) (bs : List Addr) (S : Sto Str) (b : Nat) (L : List (Nat × Str)) : Prop where
  st : StoreAt C H p bl bs S
  ok : S.Ok
  base : S.base = b
  holds : Holds S L
  len : S.bk.length ≤ 901
  last : S.last < 2 ^ 900
section
variable {C : Addr} {H H2 : Hp} {p bl : Addr} {bs bs2 : List Addr} {S : Sto Str} {b : Nat} {L : List (Nat × Str)}
theorem Led.keep (A : Led C H p bl bs S b L) (s : Same H H2) : Led C H2 p bl bs S b L := ⟨A.st.keep s, A.ok, A.base, A.holds, A.len, A.last⟩
theorem Led.new (A : StoreAt C H p bl bs (Sto.new b)) (h2 : 2 ≤ b) (h16 : b ≤ 16) : Led C H p bl bs (Sto.new b) b [] := ⟨A, new_ok h2 h16, rfl, holds_new b, Nat.zero_le _, Nat.two_pow_pos _⟩
theorem Led.part (A : Led C H p bl bs S b L) {n : Nat} (hn : n < 2 ^ 900) : part S.base n S.last ≤ 900 := part_bits A.ok.b2 hn A.last
theorem Led.put (A : Led C H p bl bs S b L) {n : Nat} {x : Str} (hn : n < 2 ^ 900) (hl : S.last ≤ n) (A2 : StoreAt C H2 p bl bs2 (S.put n x)) : Led C H2 p bl bs2 (S.put n x) b (L ++ [(n, x)]) := by
  refine ⟨A2, put_ok A.ok x hl, A.base, holds_put A.holds n x, ?_, A.last⟩
  show (addAt (ext S.bk _) _ _).length ≤ 901
  rw [addAt_len, ext_len]
  have h1 := A.part hn
  have := A.len
  split <;> omega
theorem Led.take (A : Led C H p bl bs S b L) {A' B : List (Nat × Str)} {q : Nat × Str} {h : Th Str} (s : Split L A' q B) (eh : (S.pre.bk.getD 0 []).head? = some h) (hq : q.1 < 2 ^ 900) (A2 : StoreAt C H2 p bl bs2 S.take) :
    Led C H2 p bl bs2 S.take b (A' ++ B) ∧ S.take.last = q.1 ∧ h.n = q.1 ∧ h.x = q.2 := by
  have G := gone A.ok A.holds s eh
  have hpos : 0 < S.many := by
    rw [A.holds.many, s.len]
    omega
  have R := ready A.ok hpos
  refine ⟨⟨A2, take_ok A.ok hpos, R.base.trans A.base, G.rest, ?_, by rw [G.last]; exact hq⟩, G.last, congrArg Prod.fst G.th, congrArg Prod.snd G.th⟩
  show (S.pre.bk.set 0 _).length ≤ 901
  rw [List.length_set, R.len]
  exact A.len
end
def PairI (H : Hp) (t : Addr) (r : Int × Str) : Prop := H t = some (.tup [.int r.1, .str r.2]) ∧ NameOk r.2
def asI (r : Nat × Str) : Int × Str := (r.1, r.2)
theorem pairs_asI {H : Hp} : ∀ {us : List Addr} {L : List (Nat × Str)}, Ls (PairAt H) us L → Ls (PairI H) us (L.map asI)
  | [], [], _ => trivial
  | t :: ts, h :: hs, q => ⟨q.1, pairs_asI q.2⟩
  | [], _ :: _, q => q.elim
  | _ :: _, [], q => q.elim
theorem pairs_nat {H : Hp} : ∀ {us : List Addr} {th : List (Int × Str)}, Ls (PairI H) us th → (∀ r, r ∈ th → 0 ≤ r.1) → ∃ L, th = L.map asI ∧ Ls (PairAt H) us L
  | [], [], _, _ => ⟨[], rfl, trivial⟩
  | t :: ts, h :: hs, q, k => by
    obtain ⟨L, e, q2⟩ := pairs_nat q.2 fun r hr => k r (List.mem_cons_of_mem _ hr)
    obtain ⟨n, en⟩ := nat_of (k h (by simp))
    have eh : h = asI (n, h.2) := Prod.ext en rfl
    have q1 := q.1
    rw [eh] at q1
    exact ⟨(n, h.2) :: L, by rw [List.map_cons, ← e, ← eh], q1, q2⟩
  | [], _ :: _, q, _ => q.elim
  | _ :: _, [], q, _ => q.elim
theorem asI_inj : ∀ {L M : List (Nat × Str)}, L.map asI = M.map asI → L = M
  | [], [], _ => rfl
  | [], _ :: _, h => by simp at h
  | _ :: _, [], h => by simp at h
  | a :: l, b :: m, h => by
    rw [List.map_cons, List.map_cons] at h
    obtain ⟨h1, h2⟩ := List.cons.inj h
    obtain ⟨e1, e2⟩ := Prod.mk.inj h1
    rw [Prod.ext (Int.ofNat_inj.mp e1) e2, asI_inj h2]
/-- a list of pairs as data -/
def prD (r : Nat × Str) : PyData := .tuple [.int r.1, .str r.2]
theorem pr_dp {K : PySem.W.Frag} {H : Hp} {u : Addr} {r : Nat × Str} (a : PairAt H u r) : Dp K H (.ref u) (prD r) := .tup (SqT.of a.1) (.cons (.int _) (.cons (.str _) .nil))
theorem pr_shaped {r : Nat × Str} (h : NameOk r.2) : SeqAt.shaped (prD r) = true := by
  unfold SeqAt.shaped prD
  simp [PyData.canLay0, PyData.canLayAll0, PyData.depth, PyData.depthAll, h.2]
theorem pr_eqv (r : Nat × Str) : PyData.eqv (prD r) (prD r) = true := by
  unfold prD
  simp [PyData.eqv, PyData.eqvAll]
theorem prs_dp {K : PySem.W.Frag} {H : Hp} : ∀ {us : List Addr} {L : List (Nat × Str)}, Ls (PairAt H) us L → DpAll K H (us.map V.ref) (L.map prD)
  | [], [], _ => .nil
  | t :: ts, h :: hs, q => .cons (pr_dp q.1) (prs_dp q.2)
  | [], _ :: _, q => q.elim
  | _ :: _, [], q => q.elim
theorem prs_can {H : Hp} : ∀ {ts : List Addr} {hs : List (Nat × Str)}, Ls (PairAt H) ts hs → PyData.canLayAll0 (hs.map prD) = true ∧ PyData.depthAll (hs.map prD) ≤ 2
  | [], [], _ => ⟨by simp [PyData.canLayAll0], by simp [PyData.depthAll]⟩
  | t :: ts, h :: hs, q => by
    obtain ⟨i1, i2⟩ := prs_can q.2
    have e := q.1.2.2
    refine ⟨?_, ?_⟩
    · rw [List.map_cons]
      simp [PyData.canLayAll0, prD, PyData.canLay0, e, i1]
    · rw [List.map_cons]
      simp [PyData.depthAll, prD, PyData.depth]
      omega
  | [], _ :: _, q => q.elim
  | _ :: _, [], q => q.elim
theorem prs_shaped {H : Hp} {ts : List Addr} {hs : List (Nat × Str)} (q : Ls (PairAt H) ts hs) : SeqAt.shaped (.list (hs.map prD)) = true := by
  obtain ⟨i1, i2⟩ := prs_can q
  unfold SeqAt.shaped
  simp [PyData.canLay0, i1, PyData.depth]
  omega
theorem prs_eqv : ∀ L : List (Nat × Str), PyData.eqv (.list (L.map prD)) (.list (L.map prD)) = true
  | [] => by simp [PyData.eqv, PyData.eqvAll]
  | h :: r => by
    have ih := prs_eqv r
    have e := pr_eqv h
    simp [PyData.eqv, PyData.eqvAll] at ih ⊢
    exact ⟨e, ih⟩
theorem or_fst {A B : TT} {σ : St} {H : Hp} {Q : Bool → Hp → Prop} (ha : ∀ Q : Bool → Hp → Prop, Q false H → A σ H Q) (hb : B σ H Q) : tOr A B σ H Q := ha _ (iteF hb)
theorem kp_nil {H H' : Hp} {F : List Addr} (k : Kp [] H F H') : Same H H' := fun c o e => (k c o e (by simp)).1
/-- a test of two, the other one reads only where the first one holds -/
theorem if_and {A B : TT} {T F : TS} {D : Ends} {σ : St} {H : Hp} (P : Hp → Prop) (k1 k2 : Bool) (hP : P H) (hA : ∀ Q : Bool → Hp → Prop, Q k1 H → A σ H Q) (hB : k1 = true → ∀ Q : Bool → Hp → Prop, (∀ H', P H' → Q k2 H') → B σ H Q)
    (hT : k2 = true → ∀ H', P H' → T D σ H') (hF : ∀ H', P H' → F D σ H') : tIfS (tAnd A B) T F D σ H := by
  refine hA _ ?_
  cases k1 with
  | false => exact iteF (iteF (hF H hP))
  | true =>
    refine iteT (hB rfl _ fun H' h => ?_)
    cases k2 with
    | true => exact iteT (hT rfl H' h)
    | false => exact iteF (hF H' h)
/-! ### a store and the law's own list beside it, deed by deed -/
theorem cut_to (xs : List V) {k : Nat} (h : k ≤ xs.length) : cutV xs none (some (k : Int)) = xs.take k := by
  unfold cutV
  rw [HT.sIx_none, HT.sIx_nat, List.drop_zero]
  congr 1
  omega
theorem cut_from (xs : List V) {k : Nat} (h : k ≤ xs.length) : cutV xs (some (k : Int)) none = xs.drop k := by
  unfold cutV
  rw [HT.sIx_none, HT.sIx_nat, Nat.min_eq_left h]
  exact List.take_of_length_le (by rw [List.length_drop]; omega)
theorem cut_ints (ns : List Int) (lo hi : Option Int) : ∃ cs : List Int, cutV (ns.map V.int) lo hi = cs.map V.int ∧ cs.length ≤ ns.length := by
  refine ⟨(ns.drop (HT.sIx (ns.map V.int).length 0 lo)).take (HT.sIx (ns.map V.int).length (ns.map V.int).length hi - HT.sIx (ns.map V.int).length 0 lo), ?_, ?_⟩
  · unfold cutV
    rw [List.map_take, List.map_drop]
  · rw [List.length_take, List.length_drop]
    omega
theorem get_ints {cs : List Int} {i : Nat} {y : V} (h : (cs.map V.int)[i]? = some y) : ∃ c, cs[i]? = some c ∧ y = V.int c := by
  rw [List.getElem?_map] at h
  cases e : cs[i]? with
  | none =>
    rw [e] at h
    cases h
  | some u =>
    rw [e] at h
    exact ⟨u, rfl, (Option.some.inj h).symm⟩
structure Run (C : Addr) (T : Nat) (p bl r : Addr) (b i : Nat) (H : Hp) (bs us : List Addr) (S : Sto Str) (L : List (Nat × Str)) : Prop where
  led : Led C H p bl bs S b L
  er : H r = some (.lst (us.map V.ref))
  rout : r ∉ p :: bl :: bs
  pairs : Ls (PairAt H) us L
  len : L.length ≤ i
  lastb : S.last ≤ i * T
  bd : ∀ q, q ∈ L → q.1 ≤ i * T
section
variable {C p bl r : Addr} {T b i : Nat} {H H2 : Hp} {bs bs2 us : List Addr} {S : Sto Str} {L : List (Nat × Str)}
theorem Run.keep (R : Run C T p bl r b i H bs us S L) (s : Same H H2) : Run C T p bl r b i H2 bs us S L := ⟨R.led.keep s, s _ _ R.er, R.rout, pairs_same s R.pairs, R.len, R.lastb, R.bd⟩
theorem Run.up (R : Run C T p bl r b i H bs us S L) : Run C T p bl r b (i + 1) H bs us S L := by
  have e : (i + 1) * T = i * T + T := Nat.succ_mul _ _
  exact ⟨R.led, R.er, R.rout, R.pairs, by have := R.len; omega, by have := R.lastb; omega, fun q hq => by have := R.bd q hq; omega⟩
theorem Run.put (R : Run C T p bl r b i H bs us S L) {u : Addr} {n : Nat} {x : Str} (hn : S.last ≤ n) (hT : n ≤ (i + 1) * T) (h9 : n < 2 ^ 900) (hx : NameOk x) (A2 : StoreAt C H2 p bl bs2 (S.put n x)) (K : Kp (p :: bl :: bs) H (p :: bl :: bs2) H2) (hu : H2 u = none) :
    Run C T p bl r b (i + 1) (upd (upd H2 u (.tup [.int n, .str x])) r (.lst (us.map V.ref ++ [.ref u]))) bs2 (us ++ [u]) (S.put n x) (L ++ [(n, x)]) := by
  have e : (i + 1) * T = i * T + T := Nat.succ_mul _ _
  obtain ⟨er2, ro2⟩ := K _ _ R.er R.rout
  have L2 := pairs_kp R.led.st K R.pairs
  have A3 := (R.led.put h9 hn A2).keep (same_upd1 (o := .tup [.int n, .str x]) hu)
  have nru : r ≠ u := ne_of_none er2 hu
  have er3 : (upd H2 u (.tup [.int n, .str x])) r = some (.lst (us.map V.ref)) := by rw [upd_ne nru]; exact er2
  refine ⟨⟨A3.st.upd_out ro2 er3, A3.ok, A3.base, A3.holds, A3.len, A3.last⟩, ?_, ro2, ?_, ?_, ?_, fun q hq => ?_⟩
  · rw [upd_same, List.map_append]
    rfl
  · refine Ls.app ⟨by rw [upd_ne nru.symm, upd_same], hx⟩ (L2.mono fun c g z => ⟨by rw [upd_ne (ne_of z.1 er2 (by intro y; cases y)), upd_ne (ne_of_none z.1 hu)]; exact z.1, z.2⟩)
  · rw [List.length_append]
    have := R.len
    show L.length + 1 ≤ i + 1
    omega
  · show S.last ≤ _
    have := R.lastb
    omega
  · rcases List.mem_append.mp hq with z | z
    · have := R.bd q z
      omega
    · have e2 : q = (n, x) := by simpa using z
      rw [e2]
      exact hT
/-- behind one that went: the law's list without it, anew -/
theorem Run.gone (R : Run C T p bl r b i H bs us S L) {k : Nat} {q : Nat × Str} {S' : Sto Str} {H3 : Hp} {r' : Addr} (f : FirstAt L k q) (A2 : Led C H2 p bl bs2 S' b (L.take k ++ L.drop (k + 1))) (el : S'.last = q.1) (K : Kp (p :: bl :: bs) H (p :: bl :: bs2) H2)
    (s : Same H2 H3) (fr : H2 r' = none) (er : H3 r' = some (.lst ((us.map V.ref).take k ++ (us.map V.ref).drop (k + 1)))) : Run C T p bl r' b i H3 bs2 (us.take k ++ us.drop (k + 1)) S' (L.take k ++ L.drop (k + 1)) := by
  have hk : k < L.length := (List.getElem?_eq_some_iff.mp f.1).1
  have L2 := pairs_kp R.led.st K R.pairs
  refine ⟨A2.keep s, ?_, A2.st.new_out fr, ?_, ?_, ?_, fun c hc => ?_⟩
  · rw [er, List.map_append, List.map_take, List.map_drop]
  · exact pairs_same s ((L2.take k).cat (L2.drop (k + 1)))
  · rw [List.length_append, List.length_take, List.length_drop]
    have := R.len
    omega
  · rw [el]
    exact R.bd q (List.mem_of_getElem? f.1)
  · rcases List.mem_append.mp hc with z | z
    · exact R.bd c (List.mem_of_mem_take z)
    · exact R.bd c (List.mem_of_mem_drop z)
theorem Run.first (R : Run C T p bl r b i H bs us S L) {k : Nat} {q : Nat × Str} (f : FirstAt L k q) : ∃ t, us[k]? = some t ∧ PairAt H t q ∧ atI (us.map V.ref) (k : Int) = some (V.ref t) ∧ k < us.length := by
  obtain ⟨t, et, at_⟩ := R.pairs.getR f.1
  exact ⟨t, et, at_, atI_nat (by rw [List.getElem?_map, et]; rfl), (List.getElem?_eq_some_iff.mp et).1⟩
theorem Run.emp (R : Run C T p bl r b i H bs us S L) {K : PySem.W.Frag} {e : Addr} (he : H e = none) : Dp K (upd H e (.lst [])) (.ref r) (.list (L.map prD)) ∧ Dp K (upd H e (.lst [])) (.ref e) (.list []) ∧ SeqAt.shaped (.list (L.map prD)) = true ∧ SeqAt.shaped (.list []) = true ∧ PyData.eqv (.list (L.map prD)) (.list []) = decide (L = []) := by
  have s : Same H (upd H e (.lst [])) := same_upd1 he
  refine ⟨.lst (SqL.of (s _ _ R.er)) (prs_dp (pairs_same s R.pairs)), .lst (SqL.of upd_same) .nil, prs_shaped R.pairs, by decide +kernel, ?_⟩
  cases L with
  | nil => simp [PyData.eqv, PyData.eqvAll]
  | cons h t => simp [PyData.eqv, PyData.eqvAll]
end
/-! ### walks within an except suite: lists, tuples that are unpacked, comprehensions -/
section
open PyProof.Rows
variable {prog : Program} {w : World} {A : Around} {E : Value → Shared → Prop} {s : Shared}
/-- what a walk's end makes while an exception is handled: a StopIteration, chained, and gone again -/
theorem stop_hot {x1 : Addr} {α : Type} {Q : α → Shared → Prop} {E2 : Value → Shared → Prop} (hot : HotX.HotAt A x1 s.heap) (hE : ∀ (a : Addr) (h' : Heap), (∀ b o, s.heap.get? b = some o → h'.get? b = some o) → (∃ o, h'.get? a = some o ∧ o.cls = .type "StopIteration") → E2 (.ref a) { s with heap := h' }) :
    wpAny (model prog w) A (newExc (.type "StopIteration") [] >>= fun e => (raiseNew e : Sem α)) Q E2 s := by
  obtain ⟨hh, o1, vs1, g1, d1, c1⟩ := hot
  refine wpAny_bind ?_
  simp only [newExc, newTuple]
  refine wpAny_bind (wpAny_newObj_type ?_ (by size_fits))
  refine wpAny_bind (m := firstArgMember _ _) (wpAny_of_eq (a := Value.none) (by first | rfl | (simp only [firstArgMember]; rfl)) ?_)
  refine wpAny_newObj_type ?_ (by size_fits)
  have k1 : ∀ (p : Obj) (b : Addr) (o : Obj), s.heap.get? b = some o → (s.heap.push p).get? b = some o := fun p b o e => Heap.get?_push_of_some _ e
  refine HotX.raiseNew_hot (x1 := x1) ⟨hh, o1, vs1, Heap.get?_push_of_some _ (k1 _ _ _ g1), d1, c1⟩ (Nat.ne_of_lt (Heap.lt_size (k1 _ _ _ g1))) (Heap.get?_push_size _ rfl) rfl (by first | (simp; done) | (simp; omega) | (simp only [Array.size_append]; simp; omega)) ?_
  refine hE _ _ (fun b o e => ?_) ⟨_, Heap.get?_update_self _ (Heap.get?_push_size _ rfl) rfl, rfl⟩
  rw [Heap.get?_update_other _ _ (Nat.ne_of_gt (Heap.lt_size (k1 _ _ _ e)))]
  exact Heap.get?_push_of_some _ (k1 _ _ _ e)
theorem hot_keep {it x1 : Addr} {h h' : Heap} {o : Obj} {vs : Array Value} (hot : HotX.HotAt A x1 h) (ho : h.get? it = some o) (hd : o.data = .fields vs) (h2 : vs.size ≤ 2) (sb : Heap.SameBut it h h') : HotX.HotAt A x1 h' := by
  obtain ⟨hh, o1, vs1, g1, d1, c1⟩ := hot
  have ne : x1 ≠ it := fun z => by
    rw [z, ho] at g1
    have e : o = o1 := Option.some.inj g1
    rw [e, d1] at hd
    have e2 : vs1 = vs := Data.fields.inj hd
    rw [e2, Array.getElem?_eq_none h2] at c1
    cases c1
  exact ⟨hh, o1, vs1, (sb.2 x1 ne).trans g1, d1, c1⟩
theorem list_end_hot {it l x1 : Addr} {i : Nat} {items : Array Value} {Q : Option Value → Shared → Prop} (hot : HotX.HotAt A x1 s.heap) (hit : s.heap.IsListIter it l i) (hl : s.heap.IsList l items) (hx : items[i]? = none)
    (hQ : ∀ h', Heap.ExtBut it s.heap h' → Q none { s with heap := h' }) : wpAny (model prog w) A (pyNext (.ref it)) Q E s := by
  obtain ⟨o, ho, hc, hd⟩ := id hit
  obtain ⟨ol, hol, _, nl, hdl⟩ := hl
  unfold pyNext
  refine wpAny_bind (wpAny_attempt (wpAny_callSpecial?_slot (name := Str.ofString "__next__") hit.typeIs slot_listiter_next (wpAny_call_entry slot_listiter_next hit.typeIs entry_listiter_next ?_ (args_listiter_next _))))
  show wpAny _ _ (field (.ref it) 0 >>= _) _ _ s
  refine wpAny_bind (wpAny_field ho hd (x := .ref l) rfl ?_)
  show wpAny _ _ (if (Value.ref l == Value.none) = true then _ else _) _ _ s
  rw [if_neg (show ¬ ((Value.ref l == Value.none) = true) from Bool.false_ne_true)]
  show wpAny _ _ (field (.ref it) 1 >>= _) _ _ s
  refine wpAny_bind (wpAny_field ho hd (x := .int i 0) rfl ?_)
  show wpAny _ _ (seqItems? (.ref l) >>= _) _ _ s
  refine wpAny_bind (wpAny_seqItems hol hdl ?_)
  simp only [Int.toNat_natCast, hx]
  refine wpAny_bind (wpAny_rule (wpAny_bind (wpAny_setField ho hd (by simp) ?_)))
  refine stop_hot (hot_keep hot ho hd (by simp) (Heap.SameBut.update ..)) fun a h' k ⟨oa, ea, ca⟩ => ?_
  refine wpAny_bind (wpAny_isInstance (T := "StopIteration") (b := true) ⟨_, ea, ca⟩ isSubtype_stop ?_)
  exact wpAny_pure (hQ _ fun b o hb e => k b o ((Heap.SameBut.update ..).extBut b o hb e))
theorem tup_end_hot {it t x1 : Addr} {i : Nat} {items : Array Value} {Q : Option Value → Shared → Prop} (hot : HotX.HotAt A x1 s.heap) (hit : IsTupIter s.heap it t i) (ht : IsTup s.heap t items) (hx : items[i]? = none)
    (hQ : ∀ h', Heap.ExtBut it s.heap h' → Q none { s with heap := h' }) : wpAny (model prog w) A (pyNext (.ref it)) Q E s := by
  obtain ⟨o, ho, hc, hd⟩ := id hit
  obtain ⟨ol, hol, _, nl, hdl⟩ := ht
  unfold pyNext
  refine wpAny_bind (wpAny_attempt (wpAny_callSpecial?_slot (name := Str.ofString "__next__") hit.typeIs slot_tupleiter_next (wpAny_call_entry slot_tupleiter_next hit.typeIs entry_tupleiter_next ?_ (args_tupleiter_next _))))
  show wpAny _ _ (field (.ref it) 0 >>= _) _ _ s
  refine wpAny_bind (wpAny_field ho hd (x := .ref t) rfl ?_)
  show wpAny _ _ (if (Value.ref t == Value.none) = true then _ else _) _ _ s
  rw [if_neg (show ¬ ((Value.ref t == Value.none) = true) from Bool.false_ne_true)]
  show wpAny _ _ (field (.ref it) 1 >>= _) _ _ s
  refine wpAny_bind (wpAny_field ho hd (x := .int i 0) rfl ?_)
  show wpAny _ _ (seqItems? (.ref t) >>= _) _ _ s
  refine wpAny_bind (wpAny_seqItems hol hdl ?_)
  simp only [Int.toNat_natCast, hx]
  refine wpAny_bind (wpAny_rule (wpAny_bind (wpAny_setField ho hd (by simp) ?_)))
  refine stop_hot (hot_keep hot ho hd (by simp) (Heap.SameBut.update ..)) fun a h' k ⟨oa, ea, ca⟩ => ?_
  refine wpAny_bind (wpAny_isInstance (T := "StopIteration") (b := true) ⟨_, ea, ca⟩ isSubtype_stop ?_)
  exact wpAny_pure (hQ _ fun b o hb e => k b o ((Heap.SameBut.update ..).extBut b o hb e))
theorem unpack_hot {t x1 : Addr} {items : Array Value} {Q : List Value → Shared → Prop} (hot : HotX.HotAt A x1 s.heap) (ht : IsTup s.heap t items) (hQ : ∀ h', Heap.ExtBut s.heap.objs.size s.heap h' → Q items.toList { s with heap := h' }) : wpAny (model prog w) A (unpackItems (.ref t) items.size none) Q E s := by
  have hlt : t ≠ s.heap.objs.size := by
    obtain ⟨o, ho, _⟩ := ht
    exact Nat.ne_of_lt (Heap.lt_size ho)
  unfold unpackItems
  refine wpAny_bind ?_
  unfold notIterableAtAll
  refine wpAny_bind (wpAny_specialOf ht.typeIs slot_tuple_iter.lookup ?_)
  refine wpAny_pure ?_
  simp only [Bool.false_eq_true, if_false]
  refine wpAny_bind (wpAny_holding (iter_tuple ht ?_))
  refine wpAny_bind (wpAny_holding (draw_tuple hlt items.size 0 _ _ ⟨_, Heap.get?_push_size _ rfl, rfl, rfl⟩ (ht.push _) (by omega) fun h1 hit1 hs1 => ?_))
  have hall : List.take items.size (List.drop 0 items.toList) = items.toList := by
    rw [List.drop_zero]
    exact List.take_of_length_le (by simp)
  rw [hall, if_neg (by simp)]
  have ht1 : IsTup h1 t items := (ht.push _).extBut hs1.extBut hlt
  have hot1 : HotX.HotAt A x1 h1 := by
    obtain ⟨hh, o1, vs1, g1, d1, c1⟩ := hot
    exact ⟨hh, o1, vs1, hs1.extBut x1 o1 (Nat.ne_of_lt (Heap.lt_size g1)) (Heap.get?_push_of_some _ g1), d1, c1⟩
  refine wpAny_bind (wpAny_holding (tup_end_hot (x1 := x1) hot1 hit1 ht1 (by simp) fun h2 he2 => ?_))
  simp only [Option.isSome_none, Bool.false_eq_true, if_false]
  exact wpAny_pure (hQ h2 fun b o hb e => he2 b o hb (hs1.extBut b o hb (Heap.get?_push_of_some _ e)))
end
section
variable {X : Cx}
/-- a, b = a tuple, within an except suite -/
theorem pg_tupH {es : List Expr} {k : Nat} {t : TGs} {n : Nat} {pos : Pos} (hc : L2H.HotC X) (h : PGs X es t) (hn : (assignEach es X.env).length = n := by rfl) (hst : (assignEach es X.env).findIdx? (·.1) = none := by rfl) : PG X (.Tuple es k pos) (gTup X.K n t) := by
  refine ⟨fun pins s σ H v u Q I r hw => ?_⟩
  obtain ⟨a, xs, e1, hq, hl, hw⟩ := hw
  subst e1
  cases r
  obtain ⟨x1, hot⟩ := hc.at I
  obtain ⟨its, rv, ht, hz⟩ := I.tuple hq
  have hsz : (assignEach es X.env).length = its.toArray.size := by simp [hn, ← hl, rv.length]
  rw [PyProof.Rows.assign_Tuple]
  refine wpAny_bind (wpAny_standAt ?_)
  unfold unpack
  rw [hsz, hst]
  refine wpAny_bind (wpAny_holding (unpack_hot hot ht fun h' hx => ?_))
  have I1 : Inv X pins σ H { s with heap := h' } := I.kept (t' := s.toks) fun b o e => hx b o (Nat.ne_of_lt (Heap.lt_size e)) e
  exact h.run pins _ σ H xs _ Q I1 (by simpa using rv) hw
theorem turn_listH {P : Program} {w : World} {K : PySem.W.Frag} {tg : Expr} (a it : Addr) : L2H.TurnH P w K tg (Itl K a) [it] it (fun i h => h.IsListIter it a i) where
  mem := by simp
  obj := fun i h st b hb => by
    have e : b = it := by simpa using hb
    subst e
    obtain ⟨o, e, c, d⟩ := st
    exact ⟨o, e, fun v z => by rw [d] at z; cases z⟩
  keep := fun i h h' st k => st.at fun o e => k it (by simp) o e
  item := by
    intro X hP hw hK hc i pins s σ H E I hf st hg
    subst hP hw hK
    obtain ⟨xs, x, hq, hx⟩ := hg
    obtain ⟨its, rv, p, hz⟩ := I.list hq
    obtain ⟨u, hu, ru⟩ := rv.get hx
    obtain ⟨f0, f1, f2, f3, f4, f5⟩ := hf it (by simp)
    refine wpAny_pyNext_list_item st p.isList (x := u) (by simpa using hu) fun h' st' sb => ?_
    have I1 : Inv X pins σ H { s with heap := h' } := I.turned (t' := s.toks) (fun b o hb e => (sb.2 b hb).trans e) f0 f1 f3 f4 f5
    obtain ⟨o, e, c, d⟩ := id st'
    exact ⟨u, rfl, go_of (s := { s with heap := h' }) e c d (by decide) ⟨x, H, I1, ru, ⟨rfl, fun ys hy => by rw [I.list_inj hy hq]; exact hx⟩, st', fun b hb => (hf b hb).1⟩⟩
  done := by
    intro X hP hw hK hc i pins s σ H E I hf st hg
    subst hP hw hK
    obtain ⟨xs, hq, hx⟩ := hg
    obtain ⟨its, rv, p, hz⟩ := I.list hq
    obtain ⟨f0, f1, f2, f3, f4, f5⟩ := hf it (by simp)
    have hl := rv.length
    obtain ⟨x1, hot⟩ := hc.at I
    exact list_end_hot hot st p.isList (by simp; omega) fun h' eb => ⟨rfl, I.turned (t' := s.toks) (fun b o hb e => eb b o hb e) f0 f1 f3 f4 f5⟩
  self := fun _ _ _ _ _ st h => wpAny_pyIter_listiter st h
theorem pi_listH {tg l : Expr} {tl : TE} (hl : PE X l tl) : L2H.PIH X tg l (iList X.K tl) := by
  refine ⟨fun pins s σ H R I h => ?_⟩
  refine thn (hl.run pins s σ H _ I h) fun v s1 ⟨x, H1, I1, r1, q1⟩ => ?_
  obtain ⟨a, e, ⟨xs, hq⟩, q⟩ := q1
  subst e
  cases r1
  obtain ⟨its, rv, p, hz⟩ := I1.list hq
  refine wpAny_pyIter_list p.isList ?_
  refine ⟨s1.heap.objs.size, [s1.heap.objs.size], _, _, H1, rfl, I1.kept (t' := s1.toks) fun b o e => Heap.get?_push_of_some _ e, turn_listH a _, ⟨_, Heap.get?_push_size _ rfl, rfl, rfl⟩, fun b hb => ?_, q⟩
  have e : b = s1.heap.objs.size := by simpa using hb
  subst e
  exact I1.fpOk (Nat.le_refl _) (I1.hok.fresh (Nat.le_refl _))
end
/-! ### a comprehension within an except suite -/
section
open PyProof.Rows
abbrev blkH (X : Cx) (s : Shared) (H : Hp) (scope : Scope) (cenv : Env) (fp : List Addr) (p : Addr × Obj) : Cx := { X.blk s H scope cenv fp with pn := [p] }
variable {X : Cx} {pins : List (Addr × Obj)} {σ : L2.St} {H : Hp} {s : Shared}
/-- the block's state bears the exception, too -/
theorem blk_startH {scope : Scope} {own : List (Str × Nat)} {fp : List Addr} {p : Addr × Obj} (hp : p ∈ X.pn) (I : Inv X pins σ H s) (ok : BlkOk X.N X.env.scope scope own) (hN : X.N.Nodup) (hfp : ∀ b ∈ fp, FpOk X pins H b ∧ b < s.heap.objs.size) :
    Inv (blkH X s H scope (compEnvC scope (cellsFrom (s.heap.objs.size + 1) scope.names (cloFrom X.env.cells scope.names [])) s.heap.objs.size X.env) fp p) [] (wipe σ (own.map (·.2))) H { s with heap := pushCells (s.heap.push { cls := .type "dict", data := .dict #[] }) scope.names } := by
  have J := block_start I ok hN hfp
  have kp : ∀ b o, s.heap.get? b = some o → (pushCells (s.heap.push { cls := .type "dict", data := .dict #[] }) scope.names).get? b = some o := fun b o e => pushCells_keeps _ _ _ _ (Heap.get?_push_of_some _ e)
  obtain ⟨g1, g2, g3, g4, g5⟩ := I.pin p (List.mem_append_left _ hp)
  refine ⟨⟨J.ok.mod, J.ok.kind, J.ok.glob, J.ok.blt, J.ok.above, J.ok.inj, J.ok.has, J.ok.cab, J.ok.hd, J.ok.frames, J.ok.stk, J.ok.exf, J.ok.bs, J.ok.bsz, J.ok.noex, J.ok.exfs, J.ok.funs, J.ok.frf⟩, J.os, J.bare, J.base, J.loc, J.cell, J.free, J.freeC, fun q hq => ?_, J.hok, J.len⟩
  have eq : q = p := by simpa using (show q ∈ [p] ++ ([] : List (Addr × Obj)) from hq)
  rw [eq]
  refine ⟨kp _ _ g1, g2, Nat.ne_of_lt (Heap.lt_size g1), fun z => ?_, g5⟩
  exact (List.mem_cons.mp (I.stkSub p.1 z)).elim g3 g4
theorem lc_coreH {Q : VK} {elt tg iter : Expr} {ifs : List Expr} {scope : Scope} {own : List (Str × Nat)} {pos pos' : Pos} {wi : TI} {g : TG} {tt : TT} {te : TE} {use : Option (Value → Sem Unit)} {Qf : Value → Shared → Prop} {p : Addr × Obj}
    (hot : L2H.Hot1 X.A p) (hp : p ∈ X.pn) (hN : X.N.Nodup) (I : Inv X pins σ H s) (hi : L2H.PIH X tg iter wi) (ok : BlkOk X.N X.env.scope scope own)
    (hg : ∀ (s : Shared) (H : Hp) (C : Addr) (cl : List (Str × Addr)) (fp : List Addr), PG (blkH X s H scope (compEnvC scope cl C X.env) fp p) tg g) (ht : ∀ (s : Shared) (H : Hp) (C : Addr) (cl : List (Str × Addr)) (fp : List Addr), PTs (blkH X s H scope (compEnvC scope cl C X.env) fp p) ifs tt)
    (he : ∀ (s : Shared) (H : Hp) (C : Addr) (cl : List (Str × Addr)) (fp : List Addr), PE (blkH X s H scope (compEnvC scope cl C X.env) fp p) elt te) (hs : ∀ x, foldedSetIterable iter X.env x = pure x)
    (h : tLc wi g tt te (own.map (·.2)) σ H Q)
    (hRR : ∀ D C s' m H', Inv X pins σ H' s' → Q (.ref D) H' → s'.heap.Ns C m → FpOk X pins H' C → compPost (model X.prog X.w) X.A X.xe use Qf (.ref D) C (.ok .next) s') :
    wpAny (model X.prog X.w) X.A (comprehension (.ListComp elt [⟨tg, iter, ifs, 0⟩] scope pos) scope X.env pos' (newList []) false (eval iter X.env) use) Qf X.xe s := by
  have hfree : ∀ y ∈ scope.names, y.2 = .free → ∃ c, X.env.cells.lookup y.1 = some c := fun y hy e => by
    rcases ok.free y hy e with k | k
    · exact I.ok.has _ (.inl k)
    · exact I.ok.has _ (.inr k)
  refine wpAny_comprehension_free (use := use) rfl hs (closure_ok hfree) ok.kind (fun y hy e => by rw [ok.uniq y hy, e]) (thn (hi.run pins s σ H _ I h) fun xv s1 hx => thn hx fun itv s2 h2 => ?_)
  obtain ⟨it, fp, tn, J, H2, e, I2, T, st2, f2, q⟩ := h2
  subst e
  refine wpAny_newObj_type (newEnv_comp ?_) (by show 0 ≤ sizeLine; decide)
  generalize hD : s2.heap.objs.size = D
  have hDn : H2 D = none := I2.hok.fresh (Nat.le_of_eq hD)
  obtain ⟨W, ⟨m0, w0⟩, turn⟩ := q D hDn
  generalize hs3 : ({ s2 with heap := s2.heap.push { cls := .type "list", data := .seq ([] : List Value).toArray } } : Shared) = s3
  have I3 : Inv X pins σ (upd H2 D (.lst [])) s3 := by
    rw [← hs3]
    refine I2.laid (t' := s2.toks) (fun b o e => Heap.get?_push_of_some _ e) (Nat.le_of_eq hD) ⟨Nat.zero_le _, [], 0, .nil, ?_⟩
    rw [← hD]
    exact Heap.get?_push_size _ rfl
  have h3 : s3.heap = s2.heap.push { cls := .type "list", data := .seq ([] : List Value).toArray } := by rw [← hs3]
  have sz : ∀ b ∈ fp, b < s2.heap.objs.size := fun b hb => by
    obtain ⟨o, e, _⟩ := T.obj _ _ st2 b hb
    exact Heap.lt_size e
  have f3 : ∀ b ∈ fp, FpOk X pins (upd H2 D (.lst [])) b ∧ b < s3.heap.objs.size := fun b hb => by
    have hlt := sz b hb
    refine ⟨⟨?_, (f2 b hb).2⟩, by rw [h3, Heap.size_push]; exact Nat.lt_succ_of_lt hlt⟩
    rw [upd_ne (by rw [← hD]; exact Nat.ne_of_lt hlt)]
    exact (f2 b hb).1
  have st3 : tn 0 s3.heap := T.keep _ _ _ st2 fun b _ o e => by rw [h3]; exact Heap.get?_push_of_some _ e
  have I4 := blk_startH hp I3 ok hN f3
  have pfp : ∀ b ∈ fp, p.1 ≠ b := fun b hb => (f3 b hb).1.2.2.2.2.2 p (List.mem_append_left _ hp)
  have pg := hg s3 (upd H2 D (.lst [])) s3.heap.objs.size (cellsFrom (s3.heap.objs.size + 1) scope.names (cloFrom X.env.cells scope.names [])) fp
  have pt := ht s3 (upd H2 D (.lst [])) s3.heap.objs.size (cellsFrom (s3.heap.objs.size + 1) scope.names (cloFrom X.env.cells scope.names [])) fp
  have pe := he s3 (upd H2 D (.lst [])) s3.heap.objs.size (cellsFrom (s3.heap.objs.size + 1) scope.names (cloFrom X.env.cells scope.names [])) fp
  show codeAny _ _ (.compStart (.ListComp elt [⟨tg, iter, ifs, 0⟩] scope pos) 0 (.ref it) (.ref D) (compEnvC scope (cellsFrom (s3.heap.objs.size + 1) scope.names (cloFrom X.env.cells scope.names [])) s3.heap.objs.size X.env)) (compPost (model X.prog X.w) X.A X.xe use Qf (.ref D) s3.heap.objs.size) { s3 with heap := pushCells (s3.heap.push { cls := .type "dict", data := .dict #[] }) scope.names }
  have nfp : ∀ b ∈ fp, (upd H2 D (.lst [])) b = none := fun b hb => (f3 b hb).1.1
  generalize hce : compEnvC scope (cellsFrom (s3.heap.objs.size + 1) scope.names (cloFrom X.env.cells scope.names [])) s3.heap.objs.size X.env = ce at I4 pg pt pe ⊢
  have cL : ce.locals = s3.heap.objs.size := by subst hce; rfl
  generalize hH3 : upd H2 D (.lst []) = H3 at I3 I4 pg pt pe w0 nfp f3
  generalize hs4 : ({ s3 with heap := pushCells (s3.heap.push { cls := .type "dict", data := .dict #[] }) scope.names } : Shared) = s4 at I4 ⊢
  have st4 : tn 0 s4.heap := T.keep _ _ _ st3 fun b _ o e => by rw [← hs4]; exact pushCells_keeps _ _ _ _ (Heap.get?_push_of_some _ e)
  have hB : L2H.HotC (blkH X s3 H3 scope ce fp p) := ⟨p, hot, List.mem_cons_self⟩
  have stat : ∀ {σ' : L2.St} {H' : Hp} {s' : Shared}, Inv (blkH X s3 H3 scope ce fp p) [] σ' H' s' → (∀ b ∈ fp, H' b = none) → ∀ b ∈ fp, FpOk (blkH X s3 H3 scope ce fp p) [] H' b := fun {σ' H' s'} I' hn b hb =>
    ⟨hn b hb, (I'.ok.exf b hb).1, I'.ok.exfs b hb, .inl hb, fun x c e => (I'.ok.exf b hb).2 x c e, fun q hq => by
      have eq : q = p := by simpa using (show q ∈ [p] ++ ([] : List (Addr × Obj)) from hq)
      rw [eq]
      exact pfp b hb⟩
  have loop : codeAny (model X.prog X.w) X.A (.compLoop (.ListComp elt [⟨tg, iter, ifs, 0⟩] scope pos) 0 (.ref it) (.ref D) ce) (compPost (model X.prog X.w) X.A X.xe use Qf (.ref D) s3.heap.objs.size) s4 := by
    refine compLoop_any (fun n s' => ∃ i H', Inv (blkH X s3 H3 scope ce fp p) [] (wipe σ (own.map (·.2))) H' s' ∧ tn i s'.heap ∧ (∀ b ∈ fp, H' b = none) ∧ W i n H') ?_ m0 ⟨0, H3, I4, st4, nfp, w0⟩
    rintro n s5 ⟨i, H5, I5, st5, n5, w5⟩
    rcases turn i n H5 w5 with ⟨stop, qq⟩ | ⟨go, Nx, hNx, step⟩
    · refine thnF (T.done (blkH X s3 H3 scope ce fp p) rfl rfl rfl hB i [] s5 _ H5 (fun _ _ => False) I5 (stat I5 n5) st5 stop) fun r s6 ⟨hr, I6⟩ => ?_
      subst hr
      have I7 : Inv X pins σ H5 s6 := I3.call' (ch := fp) I6.os I6.base I6.hok I6.bare fun b hb => ⟨(f3 b hb).1.2.2.2.1, (f3 b hb).1.2.1, (f3 b hb).1.2.2.2.2.1, (f3 b hb).1.2.2.2.2.2⟩
      have nC : H5 s3.heap.objs.size = none := by
        have z : H5 ce.locals = none := I6.free
        rw [cL] at z
        exact z
      obtain ⟨m, hn, _⟩ := I6.loc
      have hn : s6.heap.Ns ce.locals m := hn
      rw [cL] at hn
      exact hRR D s3.heap.objs.size s6 m H5 I7 qq hn (I3.fpOk (Nat.le_refl _) nC)
    · refine thnF (T.item (blkH X s3 H3 scope ce fp p) rfl rfl rfl hB i [] s5 _ H5 (fun _ _ => False) I5 (stat I5 n5) st5 go) fun r s6 ⟨u, hr, h6⟩ => ?_
      subst hr
      refine thnF h6 fun _ s7 ⟨x, H7, I7, r7, y7, st7, n7⟩ => ?_
      refine thnF (pg.run _ s7 _ H7 x u _ (I7.pinned (stat I7 n7) (T.obj _ _ st7)) r7 (step x H7 y7)) fun _ s8 ⟨σ8, H8, I8, hw8, q8⟩ => ?_
      refine thnF (pt.run _ s8 σ8 H8 _ I8 q8) fun b s9 ⟨H9, I9, q9⟩ => ?_
      have fin : ∀ {s' : Shared} {H' : Hp}, Inv (blkH X s3 H3 scope ce fp p) ([] ++ pinsAt fp s7.heap) σ8 H' s' → Nx H' → ∃ m, m < n ∧ ∃ i H', Inv (blkH X s3 H3 scope ce fp p) [] (wipe σ (own.map (·.2))) H' s' ∧ tn i s'.heap ∧ (∀ b ∈ fp, H' b = none) ∧ W i m H' := fun {s' H'} I' nx => by
        obtain ⟨m', hm, w'⟩ := hNx H' nx
        have pin' : ∀ b ∈ fp, ∀ o, s7.heap.get? b = some o → s'.heap.get? b = some o ∧ H' b = none := fun b hb o e =>
          let z := I'.pin (b, o) (List.mem_append_right _ (List.mem_append_right _ (mem_pinsAt hb e)))
          ⟨z.1, z.2.1⟩
        have hl : (wipe σ (own.map (·.2))).length = σ8.length := by rw [← hw8, wipe_length]
        refine ⟨m', hm, i + 1, H', (I'.unpinned (pins := [])).weak hl (fun j v e => ?_), T.keep _ _ _ st7 fun b hb o e => (pin' b hb o e).1, fun b hb => ?_, w'⟩
        · rw [← hw8] at e
          exact (wipe_some e).1
        · obtain ⟨o, e, _⟩ := T.obj _ _ st7 b hb
          exact (pin' b hb o e).2
      cases b with
      | false =>
        simp only [Bool.false_eq_true, if_false] at q9 ⊢
        exact fin I9 q9
      | true =>
        simp only [if_true] at q9 ⊢
        refine thnF (pe.run _ s9 σ8 H9 _ I9 q9) fun z s10 ⟨yv, H10, I10, r10, acc, hD10, hz10, nx⟩ => ?_
        exact app_ok (X := blkH X s3 H3 scope ce fp p) I10 hD10 hz10 r10 fun s11 I11 => fin I11 nx
  exact codeAny_compStart_list loop (T.self X.A 0 _ _ _ st4 loop)
theorem ps_setLcH {i : Nat} {y : Str} {py : Pos} {elt tg iter : Expr} {ifs : List Expr} {scope : Scope} {own : List (Str × Nat)} {pos spos : Pos} {wi : TI} {g : TG} {tt : TT} {te : TE} {p : Addr × Obj} (hot : L2H.Hot1 X.A p) (hp : p ∈ X.pn) (hN : X.N.Nodup) (hy : X.N[i]? = some y) (hyl : X.env.scope.names.lookup y = some .local)
    (hsw : swapsWith (.ListComp elt [⟨tg, iter, ifs, 0⟩] scope pos) (some (.Name y py)) spos.line X.env = pure true) (hi : L2H.PIH X tg iter wi) (ok : BlkOk X.N X.env.scope scope own)
    (hg : ∀ (s : Shared) (H : Hp) (C : Addr) (cl : List (Str × Addr)) (fp : List Addr), PG (blkH X s H scope (compEnvC scope cl C X.env) fp p) tg g) (ht : ∀ (s : Shared) (H : Hp) (C : Addr) (cl : List (Str × Addr)) (fp : List Addr), PTs (blkH X s H scope (compEnvC scope cl C X.env) fp p) ifs tt)
    (he : ∀ (s : Shared) (H : Hp) (C : Addr) (cl : List (Str × Addr)) (fp : List Addr), PE (blkH X s H scope (compEnvC scope cl C X.env) fp p) elt te) (hs : ∀ x, foldedSetIterable iter X.env x = pure x := by intro _; rfl) :
    PS X (.Assign [.Name y py] (.ListComp elt [⟨tg, iter, ifs, 0⟩] scope pos) spos) (tAsg (tLc wi g tt te (own.map (·.2))) (gName i)) := by
  refine ⟨fun pins s σ H D I h => ?_⟩
  rw [exec_Assign_Name_used _ _ _ _ hsw]
  refine wpAny_bind (wpAny_standAt (wpAny_bind ?_))
  show wpAny _ X.A (do let _ ← comprehension (.ListComp elt [⟨tg, iter, ifs, 0⟩] scope pos) scope X.env (firstIterPos [⟨tg, iter, ifs, 0⟩] pos) (newList []) false (eval iter X.env) (some (assign (.Name y py) X.env))) _ _ s
  have h : tLc wi g tt te (own.map (·.2)) σ H (fun x H1 => gName i x σ H1 D.nx) := h
  refine wpAny_bind (thn (lc_coreH (Qf := fun _ s' => SP X pins D .next s') hot hp hN I hi ok hg ht he hs h fun L C s' m H' I' q hn f => ?_) fun _ s' hq => wpAny_pure (wpAny_pure hq))
  show wpAny _ _ (assign (.Name y py) X.env (.ref L)) _ _ _
  refine wpAny_assign_Name (store_ok2 (v := V.ref L) I' hN hy (.inl hyl) rfl (fun s2 I2 ⟨a, sb, ha⟩ => ?_) (.inr hyl))
  obtain ⟨f0, f1, f2, f3, f4, f5⟩ := f
  have haC : C ≠ a := by
    rcases ha with z | z
    · rw [z]
      exact f1
    · exact fun e => f4 y a z e.symm
  exact ⟨m, hn.sameBut sb haC, fun h3 sb3 => ⟨_, H', I2.turned (t' := s2.toks) (fun b o hb e => (sb3.2 b hb).trans e) f0 f1 f3 f4 f5, q⟩⟩
/-- isinstance(e, c), e a pinned exception -/
theorem call_isP {D : Addr} {p : Addr × Obj} (hp : p ∈ X.pn) (C : ExcC X.K D) (hz : Zc (.ref D) none p.2) (hf : ∃ vs, p.2.data = .fields vs) : CallR X (.builtin "isinstance") (rIsE X.K D p.1) := by
  intro pins s σ H xs us Q I r h
  obtain ⟨c, cv, b, rfl, hcv, e, q⟩ := h
  obtain ⟨u1, u2, rfl, rx, rt⟩ := r.two
  cases rx
  have ec := hcv _ rt
  subst ec
  obtain ⟨hget, _⟩ := I.pin p (List.mem_append.mpr (.inl hp))
  obtain ⟨vs, hv⟩ := hf
  have J : PySem.W.InstAt s.heap p.1 p.2 D none := by
    obtain ⟨a, ⟨oc, od, oda, osl⟩⟩ := p
    obtain ⟨h1, h2⟩ := hz
    dsimp only at h1 h2 hv
    subst h1 h2 hv
    exact ⟨hget, rfl, rfl, trivial⟩
  exact PySem.W.kia_one (PySem.W.handS_kitx_exc C.hg C.hk C.hs C.hd C.ha C.hn C.ht C.hm) I.kIn J e (fun z => nomatch z) fun tk => ⟨.bl b, H, I.kept (t' := tk) fun _ _ z => z, rfl, q⟩
end
/-! ### defs that are told the exception, called within an except suite -/
section
open PyProof.Rows L2H
abbrev SpP := Addr → Value → Option Addr → Sp
structure FnP (P : Program) (w : World) (K : PySem.W.Frag) (mg : Str → Option Value) (base : Heap) (CX : CXT) (k : Nat) (f : Addr) (fd : FuncData) (ps : List Str) (sp : SpP) : Prop where
  len : ∀ a cls d vs H Q E, sp a cls d vs H Q E → vs.length = ps.length
  run : ∀ (A : Around) (outer : List Env) (s : Shared) (H : Hp) (args : Args) (us : List Value) (vs : List V) (Q : VK) (E : XK) (p : Addr × Obj) (cls : Value) (d : Option Addr), RoomH k A → Hot1 A p → Zc cls d p.2 → PinOk outer H s p → Env0 P w K mg base A outer s H → BindsTo s fd args (ps.zip us) → Vals vs us →
    sp p.1 cls d vs H Q E → codeAny (model P w) A (.call (.ref f) args) (CR CX outer P w H s Q E) s
theorem okP {CX : CXT} {P : Program} {w : World} {K : PySem.W.Frag} {mg : Str → Option Value} {base : Heap} {x q : Str} {st : Stmt} {f : Addr} {fd : FuncData} {N ps : List Str} {k : Nat} {sp : SpP} (F : Fun K x q st f fd) (S : FnScope N ps (defScope st)) (len : ∀ a cls d vs H Q E, sp a cls d vs H Q E → vs.length = ps.length)
    (body : ∀ (cdv : Value) (A : Around) (outer : List Env) (s : Shared) (H : Hp) (vs : List V) (Q : VK) (E : XK) (p : Addr × Obj) (cls : Value) (d : Option Addr), Hot1 A p → Zc cls d p.2 → RoomH k (A.deeper (envOfC q (defScope st) s.heap.objs.size f cdv)) → sp p.1 cls d vs H Q E →
      ∃ t, PSs (cxH CX P w K mg base N q (defScope st) f cdv A outer s H E p) (defBody st) t ∧ t { nx := fun _ H1 => Q .non H1, rt := Q } (start N vs) H) : FnP P w K mg base CX (k + 1) f fd ps sp := by
  obtain ⟨oc, od, kV, doc, pm, an, cdv, ct, osl, rfl, lk, hcd⟩ := F.ex
  refine ⟨len, fun A outer s H args us vs Q E p cls d hr hot hz hpin e0 hb r hsp => ?_⟩
  have hl := len _ _ _ _ _ _ _ hsp
  have KX : K.In s.heap := e0.mod.kin.keeps fun b o e => (e0.bs b o e).1
  have lim : s.heap.NoLimit := e0.mod.nolimit.keeps fun b o e => (e0.bs b o e).1
  have hkind : ∀ y ∈ ps.zip us, (defScope st).names.lookup y.1 = some .local ∨ ((defScope st).names.lookup y.1 = some .cell ∧ ((cellsFrom (s.heap.objs.size + 1) (defScope st).names []).lookup y.1).isSome = true) := fun ⟨n, v⟩ hy => by
    rcases S.par n (List.of_mem_zip hy).1 with q | q
    · exact .inl q
    · exact .inr ⟨q, PySem.W.cellsFrom_some _ _ _ (.inl q)⟩
  refine codeAny_call_function hr.depth (KX _ _ lk) rfl S.co S.gen rfl (PySem.W.codeRec_of KX hcd) (hb _ _ _ _ ?_)
  refine wpAny_newFunctionEnv_cells S.kind hkind fun env he s1 x => ?_
  subst he
  refine ⟨lim.keeps x.toInCall.keep, codeAny_func ?_⟩
  obtain ⟨t, ht, hq⟩ := body cdv A outer s H vs Q E p cls d hot hz (hr.deeper _) hsp
  have I : Inv (cxH CX P w K mg base N q (defScope st) f cdv A outer s H E p) [] (L2.start N vs) H s1 := inv_startH S hpin e0 hl r x
  refine wpAny_mono (ht.run [] s1 (L2.start N vs) H _ I hq) (fun fl s' hs => ?_) fun e s' hs => hs
  have fin : ∀ {σ' : L2.St} {H' : Hp} {v : V} {u : Value}, Inv (cxH CX P w K mg base N q (defScope st) f cdv A outer s H E p) [] σ' H' s' → RelV v u → Q v H' → CE outer P w H s Q u s' := fun {σ' H' v u} J rv q => ⟨v, H', J.os, J.bare, J.base, J.hok, rv, q⟩
  cases fl with
  | ret u =>
    obtain ⟨v, σ', H', J, rv, q⟩ := hs
    exact fin J rv q
  | next =>
    obtain ⟨σ', H', J, q⟩ := hs
    exact fin (v := V.non) (u := Value.none) J rfl q
  | brk =>
    obtain ⟨_, _, _, q⟩ := hs
    exact False.elim q
  | cont =>
    obtain ⟨_, _, _, q⟩ := hs
    exact False.elim q
variable {X : Cx} {CX : CXT} {k : Nat} {f C : Addr} {fd : FuncData} {ps : List Str} {E : L2.St → XK} {x m : Str} {q pos apos : Pos} {e o : Expr} {es : List Expr} {ta : TE} {t : TA}
theorem pe_callP {sp : SpP} {p : Addr × Obj} {cls : Value} {d : Option Addr} (F : FnP X.prog X.w X.K X.mg X.base CX k f fd ps sp) (hr : RoomH k X.A) (hot : Hot1 X.A p) (hp : p ∈ X.pn) (hz : Zc cls d p.2) (hg : Gl X x) (hm : X.mg x = some (.ref f)) (hk : PySem.W.keepIn X.K (.ref f) = true) (hb : Binds X.K fd ps [])
    (hx : ∀ σ, PassesAt CX X σ (E σ)) (ha : PA X (e :: es) t) (hdb : (x == ("__debug__" : Str)) = false := by decide) (he : starEach (e :: es) X.env = (false, eval e X.env) :: starEach es X.env := by rfl) (hpl : (backTo pos (starEach es X.env)).any (·.1) = false := by rfl) :
    PE X (.Call (.Name x q) (e :: es) [] pos) (tCallS (sp p.1 cls d) E t) := by
  refine ⟨fun pins s σ H Q I h => ?_⟩
  refine wpAny_Call_Name_kw (ld_glob I hg hm ?_ hdb)
  refine PySem.W.callWith_K (h₀ := X.base) I.ok.mod.kin hk (thn (ha.run pos pins s σ H _ I h) fun us s1 ⟨vs, H1, I1, r, q⟩ => ⟨I1.kIn, ?_⟩) he hpl
  have hl : us.length = ps.length := by rw [← r.length]; exact F.len _ _ _ _ _ _ _ q
  have b := hb s1 us I1.kIn (by rw [List.append_nil]; exact hl)
  rw [List.append_nil] at b
  have P1 := I1.pin p (List.mem_append_left _ hp)
  have hpin : PinOk X.stack H1 s1 p := ⟨P1.1, P1.2.1, fun hm => (List.mem_cons.mp (I1.stkSub p.1 hm)).elim P1.2.2.1 P1.2.2.2.1, P1.2.2.2.2⟩
  refine wpAny_call (codeAny_mono (F.run X.A X.stack s1 H1 ⟨us, []⟩ us vs Q (E σ) p cls d hr hot hz hpin I1.env0 b r q) fun r s' hq => ?_)
  cases r with
  | error e => exact hx σ pins H1 s1 e s' I1 hq
  | ok fl =>
    cases fl with
    | ret u => exact I1.after hq
    | next => exact False.elim hq
    | brk => exact False.elim hq
    | cont => exact False.elim hq
/-- a method's call whose exceptions are caught here -/
theorem pe_methW {sp : Sp} {pl : Sem Bool} (he : PE X o ta) (c : Cls X.K C) (hm : Meth X.K C m f) (F : FnOk X.prog X.w X.K X.mg X.base CX k f fd ps sp) (hr : Room k X.A) (hb : Binds X.K fd ps []) (hx : ∀ σ, PassesAt CX X σ (E σ)) (ha : PA X (e :: es) t)
    (hst : starEach (e :: es) X.env = (false, eval e X.env) :: starEach es X.env := by rfl) (hpl : (backTo pos (starEach es X.env)).any (·.1) = false := by rfl)
    (ht : eval (.Call (.Attribute o m apos) (e :: es) [] pos) X.env = (do
      let ov ← eval o X.env
      standAt apos.atName
      let (f, first) ← holding [ov] (getMethod ov m pl)
      callWith pos f first (backTo pos (starEach (e :: es) X.env)) (backToKw pos (keywordEach [] X.env))) := by rfl) : PE X (.Call (.Attribute o m apos) (e :: es) [] pos) (tMethH C m sp E ta t) := by
  refine ⟨fun pins s σ H Q I h => ?_⟩
  refine PySem.W.methodCall_KW (pl := pl) (thn (he.run pins s σ H _ I h) fun u s1 ⟨x, H1, I1, rx, a, dx, fs, ex, ea, l, q⟩ => ?_) ht
  subst ex
  obtain rfl : u = Value.ref a := rx
  refine getmeth_ok I1 ea c hm l ?_
  refine PySem.W.callWith_K (first := [.ref a]) (h₀ := X.base) I.ok.mod.kin hm.kp (thn (ha.run pos pins s1 σ H1 _ I1 q) fun us s2 ⟨vs, H2, I2, r, q2⟩ => ⟨I2.kIn, ?_⟩) hst hpl
  exact run_fnS (us := .ref a :: us) (vs := .ref a :: vs) F hr hb (hx σ) I2 (.cons rfl r) q2
theorem pe_meth0W {sp : Sp} {pl : Sem Bool} (he : PE X o ta) (c : Cls X.K C) (hm : Meth X.K C m f) (F : FnOk X.prog X.w X.K X.mg X.base CX k f fd ps sp) (hr : Room k X.A) (hb : Binds X.K fd ps []) (hx : ∀ σ, PassesAt CX X σ (E σ))
    (ht : eval (.Call (.Attribute o m apos) [] [] pos) X.env = (do
      let ov ← eval o X.env
      standAt apos.atName
      let (f, first) ← holding [ov] (getMethod ov m pl)
      callWith pos f first (backTo pos (starEach [] X.env)) (backToKw pos (keywordEach [] X.env))) := by rfl) : PE X (.Call (.Attribute o m apos) [] [] pos) (tMethH C m sp E ta tNil) := by
  refine ⟨fun pins s σ H Q I h => ?_⟩
  refine PySem.W.methodCall_KW (pl := pl) (thn (he.run pins s σ H _ I h) fun u s1 ⟨x, H1, I1, rx, a, dx, fs, ex, ea, l, q⟩ => ?_) ht
  subst ex
  obtain rfl : u = Value.ref a := rx
  refine getmeth_ok I1 ea c hm l ?_
  exact PySem.W.callWith_K0 (first := [.ref a]) I1.kIn hm.kp (run_fnS (us := [.ref a]) (vs := [.ref a]) F hr hb (hx σ) I1 (.cons rfl .nil) q)
/-- the exception that a suite holds -/
theorem hot_of {A : Around} {a : Addr} {oe : Obj} {cls : Value} {d : Option Addr} (hz : L2N.Zn cls d oe) (hf : ∃ vs, oe.data = .fields vs) : Hot1 (A.mark (some (.ref a))) (a, oe) := by
  obtain ⟨vs, e⟩ := hf
  exact ⟨rfl, vs, e, hz.2.2 vs e⟩
end
section
open PyProof.Rows
/-- isinstance of the exception that is held; what is to be known of its class is the reading's to tell -/
def rIsQ (K : PySem.W.Frag) (a : Addr) (cls : Value) (d : Option Addr) : List V → Hp → VK → Prop := fun xs H Q => ∃ D, cls = .ref D ∧ d = none ∧ ExcC K D ∧ rIsE K D a xs H Q
theorem call_isQ {X : Cx} {p : Addr × Obj} {cls : Value} {d : Option Addr} (hp : p ∈ X.pn) (hz : Zc cls d p.2) (hf : ∃ vs, p.2.data = .fields vs) : CallR X (.builtin "isinstance") (rIsQ X.K p.1 cls d) := by
  intro pins s σ H xs us Q I r h
  obtain ⟨D, rfl, rfl, C, h⟩ := h
  exact call_isP hp C hz hf pins s σ H xs us Q I r h
theorem hot_f {A : Around} {p : Addr × Obj} (h : L2H.Hot1 A p) : ∃ vs, p.2.data = .fields vs := by
  obtain ⟨_, vs, e, _⟩ := h
  exact ⟨vs, e⟩
theorem roomH_mark {k : Nat} {A : Around} {v : Option Value} (r : Room k A) : L2H.RoomH k (A.mark v) := ⟨r.dp, r.un⟩
theorem takes0 {X : Cx} : L2N.Takes X fun _ _ _ _ => False := fun _ _ ⟨_, _, _, _, _, _, _, _, _, _, _, _, _, _, _, _, w⟩ => w.elim
theorem pass0At {X : Cx} (σ : L2.St) : PassesAt CX0 X σ E0 := fun _ _ _ _ _ _ c => False.elim c
end
section
open PyProof.Rows
theorem pg_tupK {X : Cx} {K : PySem.W.Frag} (eK : X.K = K) {es : List Expr} {k : Nat} {t : TGs} {n : Nat} {pos : Pos} (hc : L2H.HotC X) (h : PGs X es t) (hn : (assignEach es X.env).length = n := by rfl) (hst : (assignEach es X.env).findIdx? (·.1) = none := by rfl) : PG X (.Tuple es k pos) (gTup K n t) := by
  subst eK
  exact pg_tupH hc h hn hst
theorem call_isK {X : Cx} {K : PySem.W.Frag} (eK : X.K = K) {p : Addr × Obj} {cls : Value} {d : Option Addr} (hp : p ∈ X.pn) (hz : Zc cls d p.2) (hf : ∃ vs, p.2.data = .fields vs) : CallR X (.builtin "isinstance") (rIsQ K p.1 cls d) := by
  subst eK
  exact call_isQ hp hz hf
theorem huH {k : Nat} {A : Around} (r : L2H.RoomH k A) : A.units + 64 < cLine := by
  have := r.un
  omega
end
section
open PyProof.Rows L2H
theorem pe_callA {X : Cx} {CX : CXT} {k : Nat} {f : Addr} {fd : FuncData} {ps : List Str} {E : L2.St → XK} {x : Str} {q pos : Pos} {e : Expr} {es : List Expr} {t : TA} {sp : SpP} {a : Addr} {oe : Obj} {cls : Value} {d : Option Addr} (F : FnP X.prog X.w X.K X.mg X.base CX k f fd ps sp) (hr : RoomH k X.A) (hot : Hot1 X.A (a, oe)) (hp : (a, oe) ∈ X.pn) (hz : Zc cls d oe) (hg : Gl X x) (hm : X.mg x = some (.ref f)) (hk : PySem.W.keepIn X.K (.ref f) = true) (hb : Binds X.K fd ps [])
    (hx : ∀ σ, PassesAt CX X σ (E σ)) (ha : PA X (e :: es) t) (hdb : (x == ("__debug__" : Str)) = false := by decide) (he : starEach (e :: es) X.env = (false, eval e X.env) :: starEach es X.env := by rfl) (hpl : (backTo pos (starEach es X.env)).any (·.1) = false := by rfl) :
    PE X (.Call (.Name x q) (e :: es) [] pos) (tCallS (sp a cls d) E t) := pe_callP (p := (a, oe)) F hr hot hp hz hg hm hk hb hx ha hdb he hpl
theorem call_isA {X : Cx} {K : PySem.W.Frag} (eK : X.K = K) {a : Addr} {oe : Obj} {cls : Value} {d : Option Addr} (hp : (a, oe) ∈ X.pn) (hz : Zc cls d oe) (hf : ∃ vs, oe.data = .fields vs) : CallR X (.builtin "isinstance") (rIsQ K a cls d) := call_isK (p := (a, oe)) eK hp hz hf
theorem op_eqK {X : Cx} {K : PySem.W.Frag} (eK : X.K = K) (hu : X.A.units + 64 < cLine) : OpR X (compareOp .Eq) (rEqD K) := by
  subst eK
  exact op_eqD hu
end
section
def tJoinK (K : PySem.W.Frag) : V → List V → Hp → VK → Prop := fun x xs H Q => ∃ a p, ∃ ys : List Str, x = .str a ∧ xs = [.ref p] ∧ (SqL K H p (ys.map V.str) ∨ SqT K H p (ys.map V.str)) ∧ (ys.map (·.length)).sum + ys.length * a.length ≤ 16777216 ∧ Q (.str (Txt.join a ys)) H
theorem pe_joinK {X : Cx} {K : PySem.W.Frag} (eK : X.K = K) {o e : Expr} {to te : TE} {apos pos : Pos} (ho : PE X o to) (he : PE X e te) (hs : starEach [e] X.env = [(false, eval e X.env)] := by rfl) (hbase : attributeBase o "join" X.env (eval o X.env) = eval o X.env := by rfl) (hline : (apos.endLine == pos.line) = true := by rfl) :
    PE X (.Call (.Attribute o "join" apos) [e] [] pos) (tM1 (tJoinK K) to te) := by
  subst eK
  exact pe_join ho he hs hbase hline
end
/-! ### the four kinds of refusals -/
/-- what the program's class D is, asked by each of the names that the laws ask with -/
structure Kind (K : PySem.W.Frag) (a : Ad) (cls : Value) (d : Option Addr) (b1 b2 b3 b4 : Bool) : Prop where
  ex : ∃ D, cls = .ref D ∧ d = none ∧ ExcC K D ∧ PySem.W.kitOne K (.ref D) (.ref a.C_NoBase) = some b1 ∧ PySem.W.kitOne K (.ref D) (.ref a.C_NoNumber) = some b2 ∧ PySem.W.kitOne K (.ref D) (.ref a.C_Late) = some b3 ∧ PySem.W.kitOne K (.ref D) (.ref a.C_Bare) = some b4 ∧ PySem.W.kitOne K (.ref D) (.type "ValueError") = some true
def wordOf (b1 b2 b3 b4 : Bool) : List Str := (if b1 then [Str.ofString "base"] else []) ++ (if b2 then [Str.ofString "number"] else []) ++ (if b3 then [Str.ofString "late"] else []) ++ (if b4 then [Str.ofString "bare"] else [])
/-! ### the classes of the program, by name -/
theorem exc_c {K : PySem.W.Frag} {mg : Str → Option Value} {a : Ad} (T : Txt K mg a) {D : Addr} (h1 : PySem.W.findIn K (.ref D) "__getattribute__" = some (some (.builtin "BaseException.__getattribute__"))) (h2 : PySem.W.findIn K (.ref D) "__getattr__" = some none) (h3 : PySem.W.subIn K (.ref D) (.type "BaseException") = some true)
    (h4 : PySem.W.hasDictIn K D = true) (h5 : PySem.W.findIn K (.ref D) "__class__" = some (some (.builtin "object.__class__"))) (h6 : PySem.W.mroIn K D (.type "object") = some true) : ExcC K D := ⟨h1, h2, h3, h4, h5, T.en_o, T.et_o, h6⟩
theorem cls_some {K : PySem.W.Frag} {C : Addr} (h : PySem.W.hasDictIn K C = true) (ht : PySem.W.typeIn K (.ref C) = some (.type "type")) : ((PySem.W.clsIn K C).isSome && PySem.W.typeIn K (.ref C) == some (.type "type")) = true := by
  obtain ⟨cd, hc, _⟩ := PySem.W.any_some h
  rw [hc, ht]
  rfl
/-- isinstance of one of the program's classes, asked with another one -/
theorem kit_off {K : PySem.W.Frag} {C D : Addr} (h : PySem.W.hasDictIn K C = true) (ht : PySem.W.typeIn K (.ref C) = some (.type "type")) (hs : PySem.W.subIn K (.ref D) (.ref C) = some false) (hd : PySem.W.subIn K (.ref D) (.ref D) = some true) : PySem.W.kitOne K (.ref D) (.ref C) = some false := by
  have ne : D ≠ C := fun z => by
    rw [← z, hd] at hs
    cases hs
  unfold PySem.W.kitOne
  rw [if_neg (by simp [ne])]
  show (if ((PySem.W.clsIn K C).isSome && PySem.W.typeIn K (.ref C) == some (.type "type")) = true then PySem.W.subIn K (.ref D) (.ref C) else none) = _
  rw [if_pos (cls_some h ht)]
  exact hs
theorem kit_on {K : PySem.W.Frag} {D : Addr} : PySem.W.kitOne K (.ref D) (.ref D) = some true := by
  unfold PySem.W.kitOne
  rw [if_pos (by simp)]
theorem kit_val {K : PySem.W.Frag} {D : Addr} (h : PySem.W.subIn K (.ref D) (.type "ValueError") = some true) : PySem.W.kitOne K (.ref D) (.type "ValueError") = some true := by
  unfold PySem.W.kitOne
  rw [if_neg (by simp)]
  show (if PySem.W.kitMeta "ValueError" = true then PySem.W.subIn K (.ref D) (.type "ValueError") else none) = _
  rw [if_pos (by decide +kernel)]
  exact h
section
variable {K : PySem.W.Frag} {mg : Str → Option Value} {a : Ad}
theorem kind_NoBase (T : Txt K mg a) : Kind K a (.ref a.C_NoBase) none true false false false := ⟨_, rfl, rfl, exc_c T T.eg_NoBase T.ek_NoBase T.xb_NoBase T.ed_NoBase T.ea_NoBase T.em_NoBase, kit_on, kit_off T.ed_NoNumber T.xt_NoNumber T.q_NoBase_NoNumber T.q_NoBase_NoBase, kit_off T.ed_Late T.xt_Late T.q_NoBase_Late T.q_NoBase_NoBase, kit_off T.ed_Bare T.xt_Bare T.q_NoBase_Bare T.q_NoBase_NoBase, kit_val T.q_NoBase_V⟩
theorem exf_NoBase (T : Txt K mg a) : PySem.W.exmOne K (.ref a.C_NoBase) (.ref a.C_FallError) = some true := PySem.W.exm_ref T.xb_FallError T.ed_FallError T.xt_FallError T.e_NoBase
theorem exo_NoBase (T : Txt K mg a) : PySem.W.exmOne K (.ref a.C_NoBase) (.ref a.C_NoBase) = some true := PySem.W.exm_ref T.xb_NoBase T.ed_NoBase T.xt_NoBase T.q_NoBase_NoBase
theorem kind_NoNumber (T : Txt K mg a) : Kind K a (.ref a.C_NoNumber) none false true false false := ⟨_, rfl, rfl, exc_c T T.eg_NoNumber T.ek_NoNumber T.xb_NoNumber T.ed_NoNumber T.ea_NoNumber T.em_NoNumber, kit_off T.ed_NoBase T.xt_NoBase T.q_NoNumber_NoBase T.q_NoNumber_NoNumber, kit_on, kit_off T.ed_Late T.xt_Late T.q_NoNumber_Late T.q_NoNumber_NoNumber, kit_off T.ed_Bare T.xt_Bare T.q_NoNumber_Bare T.q_NoNumber_NoNumber, kit_val T.q_NoNumber_V⟩
theorem exf_NoNumber (T : Txt K mg a) : PySem.W.exmOne K (.ref a.C_NoNumber) (.ref a.C_FallError) = some true := PySem.W.exm_ref T.xb_FallError T.ed_FallError T.xt_FallError T.e_NoNumber
theorem exo_NoNumber (T : Txt K mg a) : PySem.W.exmOne K (.ref a.C_NoNumber) (.ref a.C_NoNumber) = some true := PySem.W.exm_ref T.xb_NoNumber T.ed_NoNumber T.xt_NoNumber T.q_NoNumber_NoNumber
theorem kind_Late (T : Txt K mg a) : Kind K a (.ref a.C_Late) none false false true false := ⟨_, rfl, rfl, exc_c T T.eg_Late T.ek_Late T.xb_Late T.ed_Late T.ea_Late T.em_Late, kit_off T.ed_NoBase T.xt_NoBase T.q_Late_NoBase T.q_Late_Late, kit_off T.ed_NoNumber T.xt_NoNumber T.q_Late_NoNumber T.q_Late_Late, kit_on, kit_off T.ed_Bare T.xt_Bare T.q_Late_Bare T.q_Late_Late, kit_val T.q_Late_V⟩
theorem exf_Late (T : Txt K mg a) : PySem.W.exmOne K (.ref a.C_Late) (.ref a.C_FallError) = some true := PySem.W.exm_ref T.xb_FallError T.ed_FallError T.xt_FallError T.e_Late
theorem exo_Late (T : Txt K mg a) : PySem.W.exmOne K (.ref a.C_Late) (.ref a.C_Late) = some true := PySem.W.exm_ref T.xb_Late T.ed_Late T.xt_Late T.q_Late_Late
theorem kind_Bare (T : Txt K mg a) : Kind K a (.ref a.C_Bare) none false false false true := ⟨_, rfl, rfl, exc_c T T.eg_Bare T.ek_Bare T.xb_Bare T.ed_Bare T.ea_Bare T.em_Bare, kit_off T.ed_NoBase T.xt_NoBase T.q_Bare_NoBase T.q_Bare_Bare, kit_off T.ed_NoNumber T.xt_NoNumber T.q_Bare_NoNumber T.q_Bare_Bare, kit_off T.ed_Late T.xt_Late T.q_Bare_Late T.q_Bare_Bare, kit_on, kit_val T.q_Bare_V⟩
theorem exf_Bare (T : Txt K mg a) : PySem.W.exmOne K (.ref a.C_Bare) (.ref a.C_FallError) = some true := PySem.W.exm_ref T.xb_FallError T.ed_FallError T.xt_FallError T.e_Bare
theorem exo_Bare (T : Txt K mg a) : PySem.W.exmOne K (.ref a.C_Bare) (.ref a.C_Bare) = some true := PySem.W.exm_ref T.xb_Bare T.ed_Bare T.xt_Bare T.q_Bare_Bare
end
/-! ### tests with their values known -/
/-- a test with its value known, whatever it lays -/
def Tst (A : TT) (σ : St) (H : Hp) (P : Hp → Prop) (k : Bool) : Prop := ∀ Q : Bool → Hp → Prop, (∀ H', P H' → Q k H') → A σ H Q
theorem and_P {A B : TT} {σ : St} {H : Hp} {P : Hp → Prop} {ka kb : Bool} (hA : Tst A σ H P ka) (hB : ka = true → ∀ H', P H' → Tst B σ H' P kb) : Tst (tAnd A B) σ H P (ka && kb) := fun Q q => by
  refine hA _ fun H' h => ?_
  cases ka with
  | true => exact iteT (hB rfl H' h Q fun H'' h'' => q H'' h'')
  | false => exact iteF (q H' h)
theorem or_P {A B : TT} {σ : St} {H : Hp} {P : Hp → Prop} {ka kb : Bool} (hA : Tst A σ H P ka) (hB : ka = false → ∀ H', P H' → Tst B σ H' P kb) : Tst (tOr A B) σ H P (ka || kb) := fun Q q => by
  refine hA _ fun H' h => ?_
  cases ka with
  | true => exact iteT (q H' h)
  | false => exact iteF (hB rfl H' h Q fun H'' h'' => q H'' h'')
theorem if_P {A : TT} {T F : TS} {D : Ends} {σ : St} {H : Hp} {P : Hp → Prop} {k : Bool} (hA : Tst A σ H P k) (hT : k = true → ∀ H', P H' → T D σ H') (hF : k = false → ∀ H', P H' → F D σ H') : tIfS A T F D σ H := by
  refine hA _ fun H' h => ?_
  cases k with
  | true => exact iteT (hT rfl H' h)
  | false => exact iteF (hF rfl H' h)
/-! ### lists of rows as data -/
theorem rows_dp {K : PySem.W.Frag} {H : Hp} : ∀ {us : List Addr} {L : List (Nat × Th Str)}, Ls (RowAt H) us L → DpAll K H (us.map V.ref) (L.map rowD)
  | [], [], _ => .nil
  | t :: ts, h :: hs, q => .cons (row_dp q.1) (rows_dp q.2)
  | [], _ :: _, q => q.elim
  | _ :: _, [], q => q.elim
theorem rows_can {H : Hp} : ∀ {ts : List Addr} {hs : List (Nat × Th Str)}, Ls (RowAt H) ts hs → PyData.canLayAll0 (hs.map rowD) = true ∧ PyData.depthAll (hs.map rowD) ≤ 2
  | [], [], _ => ⟨by simp [PyData.canLayAll0], by simp [PyData.depthAll]⟩
  | t :: ts, h :: hs, q => by
    obtain ⟨i1, i2⟩ := rows_can q.2
    have e := q.1.2.2
    refine ⟨?_, ?_⟩
    · rw [List.map_cons]
      simp [PyData.canLayAll0, rowD, PyData.canLay0, e, i1]
    · rw [List.map_cons]
      simp [PyData.depthAll, rowD, PyData.depth]
      omega
  | [], _ :: _, q => q.elim
  | _ :: _, [], q => q.elim
theorem rows_shaped {H : Hp} {ts : List Addr} {hs : List (Nat × Th Str)} (q : Ls (RowAt H) ts hs) : SeqAt.shaped (.list (hs.map rowD)) = true := by
  obtain ⟨i1, i2⟩ := rows_can q
  unfold SeqAt.shaped
  simp [PyData.canLay0, i1, PyData.depth]
  omega
theorem rows_eqv : ∀ L : List (Nat × Th Str), PyData.eqv (.list (L.map rowD)) (.list (L.map rowD)) = true
  | [] => by simp [PyData.eqv, PyData.eqvAll]
  | h :: r => by
    have ih := rows_eqv r
    have e := row_eqv h
    simp [PyData.eqv, PyData.eqvAll] at ih ⊢
    exact ⟨e, ih⟩
theorem rows_nil (L : List (Nat × Th Str)) : PyData.eqv (.list (L.map rowD)) (.list []) = decide (L = []) := by
  cases L with
  | nil => simp [PyData.eqv, PyData.eqvAll]
  | cons h t => simp [PyData.eqv, PyData.eqvAll]
theorem rows_same {H H' : Hp} (s : Same H H') {us : List Addr} {D : List (Nat × Th Str)} (q : Ls (RowAt H) us D) : Ls (RowAt H') us D := q.mono fun _ _ z => ⟨s _ _ z.1, z.2⟩
/-- what the law keeps of a store: its rows, its last one, how many, the moves -/
def SeenAt (H : Hp) (s : Addr) (S : Sto Str) : Prop := ∃ (r : Addr) (us : List Addr), H s = some (.lst [.ref r, .int S.last, .int S.many, .int S.moves]) ∧ H r = some (.lst (us.map V.ref)) ∧ Ls (RowAt H) us (rowsFrom 0 S.bk)
def seenD (S : Sto Str) : PyData := .list [.list ((rowsFrom 0 S.bk).map rowD), .int S.last, .int S.many, .int S.moves]
theorem SeenAt.keep {H H' : Hp} {s : Addr} {S : Sto Str} (A : SeenAt H s S) (k : Same H H') : SeenAt H' s S := by
  obtain ⟨r, us, h1, h2, h3⟩ := A
  exact ⟨r, us, k _ _ h1, k _ _ h2, rows_same k h3⟩
theorem SeenAt.dp {K : PySem.W.Frag} {H : Hp} {s : Addr} {S : Sto Str} (A : SeenAt H s S) : Dp K H (.ref s) (seenD S) ∧ SeqAt.shaped (seenD S) = true := by
  obtain ⟨r, us, h1, h2, h3⟩ := A
  refine ⟨.lst (SqL.of h1) (.cons (.lst (SqL.of h2) (rows_dp h3)) (.cons (.int _) (.cons (.int _) (.cons (.int _) .nil)))), ?_⟩
  obtain ⟨i1, i2⟩ := rows_can h3
  unfold SeqAt.shaped seenD
  simp [PyData.canLay0, PyData.canLayAll0, i1, PyData.depth, PyData.depthAll]
  omega
theorem seen_eqv (S : Sto Str) : PyData.eqv (seenD S) (seenD S) = true := by
  have e := rows_eqv (rowsFrom 0 S.bk)
  unfold seenD
  simp [PyData.eqv, PyData.eqvAll] at e ⊢
  exact e
/-! ### the script, which no store and no list of the law holds -/
def Scr (K : PySem.W.Frag) (F : List Addr) (H : Hp) (a : Addr) (xs : List V) : Prop := (Rd H a (.lst xs) ∧ a ∉ F) ∨ ∀ H', SqL K H' a xs
section
variable {K : PySem.W.Frag} {F F2 : List Addr} {H H2 : Hp} {a r r2 : Addr} {xs : List V} {o : HO}
theorem Scr.of (h : SqL K H a xs) : Scr K [] H a xs := by
  rcases h with h | h
  · exact .inl ⟨h, by simp⟩
  · exact .inr fun _ => .inr h
theorem Scr.seq (h : Scr K F H a xs) : SqL K H a xs := by
  rcases h with ⟨h, _⟩ | h
  · exact .inl h
  · exact h H
theorem Scr.kp (h : Scr K F H a xs) (k : Kp F H F2 H2) : Scr K F2 H2 a xs := by
  rcases h with ⟨h | ⟨o, h⟩, n⟩ | h
  · exact .inl ⟨.inl (k _ _ h n).1, (k _ _ h n).2⟩
  · exact .inl ⟨.inr ⟨o, (k _ _ h n).1⟩, (k _ _ h n).2⟩
  · exact .inr h
theorem Scr.keep (h : Scr K F H a xs) (s : Same H H2) : Scr K F H2 a xs := h.kp (.same s)
theorem Kp.more (k : Kp F H F2 H2) : Kp (r :: F) H (r :: F2) H2 := fun c o e n => by
  have n1 : c ≠ r := fun z => n (by simp [z])
  obtain ⟨h1, h2⟩ := k c o e fun z => n (List.mem_cons_of_mem _ z)
  exact ⟨h1, fun z => (List.mem_cons.mp z).elim n1 h2⟩
theorem Kp.fresh (s : Same H H2) (f : H r = none) : Kp F H (r :: F) H2 := fun c o e n => ⟨s c o e, fun z => (List.mem_cons.mp z).elim (ne_of_none e f) n⟩
theorem Kp.swap (s : Same H H2) (f : H r2 = none) : Kp (r :: F) H (r2 :: F) H2 := fun c o e n => ⟨s c o e, fun z => (List.mem_cons.mp z).elim (ne_of_none e f) fun y => n (List.mem_cons_of_mem _ y)⟩
end
theorem sc_need_base : FnScope ["base"] ["base"] (defScope s_need_base) := ⟨rfl, rfl, rfl, by decide +kernel, rfl, by decide +kernel, by decide +kernel⟩
def sp_need_base (a : Ad) : Sp := fun vs H Q E => ∃ b : Int, vs = [.int b] ∧ ((b < 2 ∨ 16 < b) → E (.ref a.C_NoBase) none H) ∧ (2 ≤ b → b ≤ 16 → Q .non H)
theorem ok_need_base {P : Program} {w : World} {K : PySem.W.Frag} {mg : Str → Option Value} {base : Heap} {a : Ad} (T : Txt K mg a) : FnOk P w K mg base (L2N.CX P w) 1 a.f_need_base a.d_need_base ["base"] (sp_need_base a) := by
  skip
  refine okN T.F_need_base sc_need_base (fun vs H Q E h => ?_) (fun cdv A outer s H vs Q E hr h => ?_)
  · obtain ⟨b, rfl, _⟩ := h
    rfl
  · obtain ⟨b, rfl, h1, h2⟩ := h
    refine ⟨_, (pss_one (ps_if (PW.pt (pw_or (pt_cmpR op_lt (pv 0) pe_int (nomark _)) (pw_or1 (pt_cmpR op_gt (pv 0) pe_int (nomark _))))) (pss_one (L2N.ps_raise rfl (L2N.takes_of rfl rfl rfl rfl) (L2N.pmk_own PySem.F.excBase_ValueError T.x_NoBase T.g_NoBase T.k_NoBase (raises_own T.xb_NoBase T.xt_NoBase) rfl))) pss_nil)), ?_⟩
    refine ⟨_, rfl, _, _, rfl, rfl, _, rfl, ifd (fun c => iteT (h1 (Or.inl c))) (fun c => ⟨_, rfl, _, _, rfl, rfl, _, rfl, ifd (fun d => h1 (Or.inr d)) (fun d => h2 (by omega) (by omega))⟩)⟩
theorem sc_need_number : FnScope ["number"] ["number"] (defScope s_need_number) := ⟨rfl, rfl, rfl, by decide +kernel, rfl, by decide +kernel, by decide +kernel⟩
def sp_need_number (a : Ad) : Sp := fun vs H Q E => ∃ n : Int, vs = [.int n] ∧ (n < 0 → E (.ref a.C_NoNumber) none H) ∧ (0 ≤ n → Q .non H)
theorem ok_need_number {P : Program} {w : World} {K : PySem.W.Frag} {mg : Str → Option Value} {base : Heap} {a : Ad} (T : Txt K mg a) : FnOk P w K mg base (L2N.CX P w) 1 a.f_need_number a.d_need_number ["number"] (sp_need_number a) := by
  skip
  refine okN T.F_need_number sc_need_number (fun vs H Q E h => ?_) (fun cdv A outer s H vs Q E hr h => ?_)
  · obtain ⟨b, rfl, _⟩ := h
    rfl
  · obtain ⟨b, rfl, h1, h2⟩ := h
    refine ⟨_, (pss_one (ps_if (pt_cmpR op_lt (pv 0) pe_int (nomark _)) (pss_one (L2N.ps_raise rfl (L2N.takes_of rfl rfl rfl rfl) (L2N.pmk_own PySem.F.excBase_ValueError T.x_NoNumber T.g_NoNumber T.k_NoNumber (raises_own T.xb_NoNumber T.xt_NoNumber) rfl))) pss_nil)), ?_⟩
    exact ⟨_, rfl, _, _, rfl, rfl, _, rfl, ifd (fun c => h1 c) (fun c => h2 (by omega))⟩
theorem sc_parting : FnScope ["one", "other", "base", "place", "found"] ["one", "other", "base"] (defScope s_parting) := ⟨rfl, rfl, rfl, by decide +kernel, rfl, by decide +kernel, by decide +kernel⟩
def sp_parting (a : Ad) : Sp := fun vs H Q E => ∃ x y b : Int, vs = [.int x, .int y, .int b] ∧ ((b < 2 ∨ 16 < b) → E (.ref a.C_NoBase) none H) ∧ (2 ≤ b → b ≤ 16 → (x < 0 ∨ y < 0) → E (.ref a.C_NoNumber) none H) ∧
  (∀ x' y' b' : Nat, x = x' → y = y' → b = b' → 2 ≤ b' → b' ≤ 16 → Q (.int (part b' x' y')) H)
theorem ok_parting {P : Program} {w : World} {K : PySem.W.Frag} {mg : Str → Option Value} {base : Heap} {a : Ad} (T : Txt K mg a) : FnOk P w K mg base (L2N.CX P w) 2 a.f_parting a.d_parting ["one", "other", "base"] (sp_parting a) := by
  have G_need_base := @ok_need_base P w K mg base a T
  have G_need_number := @ok_need_number P w K mg base a T
  refine okN T.F_parting sc_parting (fun vs H Q E h => ?_) (fun cdv A outer s H vs Q E hr h => ?_)
  · obtain ⟨_, _, _, rfl, _⟩ := h
    rfl
  · obtain ⟨x, y, b, rfl, h1, h2, h3⟩ := h
    refine ⟨_, (pss_cons (ps_expr (pe_call G_need_base (hr.mono (by decide)) rfl T.m_need_base T.F_need_base.kp T.b_need_base .nil (L2N.passes_call (L2N.takes_of rfl rfl rfl rfl) (fun _ _ _ _ h => h)) (pa_cons (pv 2) pa_nil)))
      (pss_cons (ps_expr (pe_call G_need_number (hr.mono (by decide)) rfl T.m_need_number T.F_need_number.kp T.b_need_number .nil (L2N.passes_call (L2N.takes_of rfl rfl rfl rfl) (fun _ _ _ _ h => h)) (pa_cons (pv 0) pa_nil)))
      (pss_cons (ps_expr (pe_call G_need_number (hr.mono (by decide)) rfl T.m_need_number T.F_need_number.kp T.b_need_number .nil (L2N.passes_call (L2N.takes_of rfl rfl rfl rfl) (fun _ _ _ _ h => h)) (pa_cons (pv 1) pa_nil)))
      (pss_cons (ps_set (i := 3) sc_parting.nd rfl (Or.inl rfl) pe_int)
      (pss_cons (ps_set (i := 4) sc_parting.nd rfl (Or.inl rfl) pe_int)
      (pss_cons (ps_while (passes_of rfl) (PW.pt (pw_or (pt_cmpR op_gt (pv 0) pe_int (nomark _)) (pw_or1 (pt_cmpR op_gt (pv 1) pe_int (nomark _))))) (pss_cons (ps_set (i := 3) sc_parting.nd rfl (Or.inl rfl) (pe_op op_add (pv 3) pe_int))
      (C8.pss_cut (ps_if (pt_cmpR op_ne (pe_op op_mod (pv 0) (pv 2)) (pe_op op_mod (pv 1) (pv 2)) (nomark _)) (pss_one (ps_set (i := 4) sc_parting.nd rfl (Or.inl rfl) (pv 3))) pss_nil)
      (pss_cons (ps_set (i := 0) sc_parting.nd rfl (Or.inl rfl) (pe_op op_fdivW (pv 0) (pv 2)))
      (pss_one (ps_set (i := 1) sc_parting.nd rfl (Or.inl rfl) (pe_op op_fdivW (pv 1) (pv 2))))))))
      (pss_one (ps_ret (pv 4))))))))), ?_⟩
    refine ⟨_, rfl, b, rfl, h1, fun c1 c2 => ⟨_, rfl, x, rfl, fun c => h2 c1 c2 (Or.inl c), fun c3 => ⟨_, rfl, y, rfl, fun c => h2 c1 c2 (Or.inr c), fun c4 => ?_⟩⟩⟩
    obtain ⟨x0, rfl⟩ := nat_of c3
    obtain ⟨y0, rfl⟩ := nat_of c4
    obtain ⟨b0, rfl⟩ := nat_of (show 0 ≤ b by omega)
    have k := h3 x0 y0 b0 rfl rfl rfl (by omega) (by omega)
    refine ⟨fun m σ H' => ∃ o t p f : Nat, m = o + t ∧ H' = H ∧ σ = [some (.int o), some (.int t), some (.int b0), some (.int p), some (.int f)] ∧ pfin b0 o t p f = part b0 x0 y0, ⟨_, x0, y0, 0, 0, rfl, rfl, rfl, pfin_start _ _ _⟩, ?_⟩
    rintro m σ H' ⟨o, t, p, f, rfl, rfl, rfl, e⟩
    refine or_det (ka := decide ((0 : Int) < o)) (kb := decide ((0 : Int) < t)) (fun Q q => ⟨_, rfl, _, _, rfl, rfl, _, rfl, q⟩) (fun _ Q q => ⟨_, rfl, _, _, rfl, rfl, _, rfl, q⟩) _ ?_
    by_cases hpos : 0 < o + t
    · rw [if_pos (by rw [Bool.or_eq_true, decide_eq_true_eq, decide_eq_true_eq]; omega)]
      refine ⟨fun σ'' H'' => ∃ f' : Nat, (f' = p + 1 ∧ o % b0 ≠ t % b0 ∨ f' = f ∧ o % b0 = t % b0) ∧ H'' = H' ∧ σ'' = [some (.int ((o : Int) / b0)), some (.int ((t : Int) / b0)), some (.int b0), some (.int ((p : Int) + 1)), some (.int f')], ?_, ?_⟩
      · rintro σ'' H'' ⟨f', hf, rfl, rfl⟩
        refine ⟨o / b0 + t / b0, ?_, o / b0, t / b0, p + 1, f', rfl, rfl, ?_, ?_⟩
        · have h1 : o / b0 ≤ o := Nat.div_le_self _ _
          have h2 : t / b0 ≤ t := Nat.div_le_self _ _
          rcases Nat.lt_or_ge 0 o with hx | hx
          · have := Nat.div_lt_self hx (show 1 < b0 by omega)
            omega
          · have hy : 0 < t := by omega
            have := Nat.div_lt_self hy (show 1 < b0 by omega)
            omega
        · rw [cast_div, cast_div]
          rfl
        · rcases hf with ⟨rfl, hf⟩ | ⟨rfl, hf⟩
          · rw [pfin_ne (f := f) (by omega) hf]
            exact e
          · rw [pfin_eq (by omega) hf]
            exact e
      · have hb0 : (0 : Int) < b0 := by omega
        refine ⟨_, rfl, _, _, rfl, rfl, fun σ'' H'' => ∃ f' : Nat, (f' = p + 1 ∧ o % b0 ≠ t % b0 ∨ f' = f ∧ o % b0 = t % b0) ∧ H'' = H' ∧ σ'' = [some (.int o), some (.int t), some (.int b0), some (.int ((p : Int) + 1)), some (.int f')], ?_, ?_⟩
        · refine ⟨_, rfl, _, rfl, _, _, rfl, rfl, hb0, _, rfl, _, rfl, _, _, rfl, rfl, hb0, rfl, _, rfl, ifni (fun c => ?_) (fun c => ?_)⟩
          · refine ⟨_, rfl, p + 1, Or.inl ⟨rfl, fun q => c ?_⟩, rfl, rfl⟩
            rw [cast_mod, cast_mod, q]
          · refine ⟨f, Or.inr ⟨rfl, ?_⟩, rfl, rfl⟩
            rw [cast_mod, cast_mod] at c
            omega
        · rintro σ'' H'' ⟨f', hf, rfl, rfl⟩
          exact ⟨_, rfl, _, rfl, _, _, rfl, rfl, divW (by omega) (by omega), _, rfl, _, rfl, _, _, rfl, rfl, divW (by omega) (by omega), f', hf, rfl, rfl⟩
    · rw [if_neg (by rw [Bool.or_eq_true, decide_eq_true_eq, decide_eq_true_eq]; omega)]
      have ho : o = 0 := by omega
      have ht : t = 0 := by omega
      subst ho ht
      have e' : f = part b0 x0 y0 := by
        rw [← e]
        unfold pfin
        rw [if_pos rfl]
      subst e'
      exact ⟨_, rfl, k⟩
theorem sc_Store_init : FnScope ["self", "base"] ["self", "base"] (defScope s_Store_init) := ⟨rfl, rfl, rfl, by decide +kernel, rfl, by decide +kernel, by decide +kernel⟩
def sp_Store_init (a : Ad) : Sp := fun vs H Q E => ∃ (p dx : Addr) (b : Int), vs = [.ref p, .int b] ∧ H p = some (.ins a.C_Store dx []) ∧ ((b < 2 ∨ 16 < b) → E (.ref a.C_NoBase) none H) ∧
  (∀ b' : Nat, b = b' → 2 ≤ b' → b' ≤ 16 → ∀ (bl : Addr) (H' : Hp), StoreAt a.C_Store H' p bl [] (Sto.new b') → Kp [p] H [p, bl] H' → Q .non H')
theorem ok_Store_init {P : Program} {w : World} {K : PySem.W.Frag} {mg : Str → Option Value} {base : Heap} {a : Ad} (T : Txt K mg a) : FnOk P w K mg base (L2N.CX P w) 2 a.f_Store_init a.d_Store_init ["self", "base"] (sp_Store_init a) := by
  have G_need_base := @ok_need_base P w K mg base a T
  refine okN T.F_Store_init sc_Store_init (fun vs H Q E h => ?_) (fun cdv A outer s H vs Q E hr h => ?_)
  · obtain ⟨_, _, _, rfl, _⟩ := h
    rfl
  · obtain ⟨p, dx, b, rfl, hp, h1, h2⟩ := h
    refine ⟨_, (pss_cons (ps_expr (pe_call G_need_base (hr.mono (by decide)) rfl T.m_need_base T.F_need_base.kp T.b_need_base .nil (L2N.passes_call (L2N.takes_of rfl rfl rfl rfl) (fun _ _ _ _ h => h)) (pa_cons (pv 1) pa_nil)))
      (pss_cons (ps_fld (pv 0) (pv 1) rfl)
      (pss_cons (ps_fld (pv 0) pe_int rfl)
      (pss_cons (ps_fld (pv 0) pe_int rfl)
      (pss_cons (ps_fld (pv 0) pe_int rfl)
      (pss_one (ps_fld (pv 0) (pe_lst pa_nil) rfl))))))), ?_⟩
    refine ⟨_, rfl, b, rfl, h1, fun c1 c2 => ?_⟩
    obtain ⟨b0, rfl⟩ := nat_of (show 0 ≤ b by omega)
    have k := h2 b0 rfl (by omega) (by omega)
    refine ⟨_, rfl, _, rfl, p, a.C_Store, dx, [], rfl, hp, T.cl_Store, T.nf_Store_base, (by show 0 < 1000; decide), ?_⟩
    refine ⟨_, rfl, p, a.C_Store, dx, _, rfl, upd_same, T.cl_Store, T.nf_Store_last, (by show 1 < 1000; decide), ?_⟩
    refine ⟨_, rfl, p, a.C_Store, dx, _, rfl, upd_same, T.cl_Store, T.nf_Store_many, (by simp only [putF, if_neg ne_base_last]; show 2 < 1000; decide), ?_⟩
    refine ⟨_, rfl, p, a.C_Store, dx, _, rfl, upd_same, T.cl_Store, T.nf_Store_moves, (by simp only [putF, if_neg ne_base_last, if_neg ne_base_many, if_neg ne_last_many]; show 3 < 1000; decide), ?_⟩
    refine ⟨Nat.zero_le _, fun bl hbl => ?_⟩
    have np : p ≠ bl := ne_of_none upd_same hbl
    refine ⟨_, rfl, p, a.C_Store, dx, _, rfl, Eq.trans (upd_ne np) upd_same, T.cl_Store, T.nf_Store_buckets, ?_, ?_⟩
    · simp only [putF, if_neg ne_base_last, if_neg ne_base_many, if_neg ne_last_many, if_neg ne_base_moves, if_neg ne_last_moves, if_neg ne_many_moves]
      show 4 < 1000
      decide
    · have hb0 : H bl = none := by
        rw [upd_ne np.symm, upd_ne np.symm, upd_ne np.symm, upd_ne np.symm] at hbl
        exact hbl
      refine k bl _ ⟨⟨dx, ?_⟩, ?_, by simp, rfl, fun j b e => by simp at e⟩ fun c o e n => ?_
      · rw [upd_same, sf_make]
        rfl
      · rw [upd_ne np.symm, upd_same]
        rfl
      · have n1 : c ≠ p := fun z => n (by rw [z]; exact List.mem_cons_self)
        have n2 : c ≠ bl := ne_of_none e hb0
        refine ⟨?_, fun z => ?_⟩
        · rw [upd_ne n1, upd_ne n2, upd_ne n1, upd_ne n1, upd_ne n1, upd_ne n1]
          exact e
        · rcases List.mem_cons.mp z with z | z
          · exact n1 z
          · exact n2 (by simpa using z)
theorem sc_Store_room : FnScope ["self", "place"] ["self", "place"] (defScope s_Store_room) := ⟨rfl, rfl, rfl, by decide +kernel, rfl, by decide +kernel, by decide +kernel⟩
def sp_Store_room (C : Addr) : Sp := fun vs H Q _ => ∃ (p bl : Addr) (bs : List Addr) (S : Sto Str) (k : Nat), vs = [.ref p, .int k] ∧ StoreAt C H p bl bs S ∧ k ≤ 10000 ∧ S.bk.length ≤ 10001 ∧
  ∀ (bs' : List Addr) (b : Addr) (H' : Hp), StoreAt C H' p bl bs' { S with bk := ext S.bk k } → bs'[k]? = some b → Kp (p :: bl :: bs) H (p :: bl :: bs') H' → Q (.ref b) H'
theorem ext_add (bk : List (List (Th Str))) (i : Nat) : bk ++ List.replicate (i + 1) [] = bk ++ List.replicate i [] ++ [[]] := by
  rw [List.replicate_succ', List.append_assoc]
theorem ok_Store_room {P : Program} {w : World} {K : PySem.W.Frag} {mg : Str → Option Value} {base : Heap} {a : Ad} (T : Txt K mg a) : FnOk P w K mg base CX0 1 a.f_Store_room a.d_Store_room ["self", "place"] (sp_Store_room a.C_Store) := by
  skip
  refine T.F_Store_room.ok sc_Store_room (fun vs H Q E h => ?_) (fun cdv A outer s H vs Q E hr h => ?_)
  · obtain ⟨_, _, _, _, _, rfl, _⟩ := h
    rfl
  · obtain ⟨p, bl, bs, S, k, rfl, A, hk, hlen, q⟩ := h
    obtain ⟨⟨dx, ob⟩, B⟩ := id A
    refine ⟨_, (pss_cons (ps_while PassesOwn.never (pt_cmpR op_le (pe_callB call_len rfl T.n_len PySem.boot_len (pa_cons (pe_fld (pv 0) rfl) pa_nil)) (pv 1) (nomark _)) (pss_one (ps_expr (pe_bm PySem.F.plainAttrs_list PySem.F.slot_list_append PySem.F.type_list_append mt_append (pe_fld (pv 0) rfl) (pa_cons (pe_lst pa_nil) pa_nil)))))
      (pss_one (ps_ret (pe_ix ix_list (pe_fld (pv 0) rfl) (pv 1) (fun _ _ => rfl))))), ?_⟩
    refine ⟨fun m σ H' => ∃ (i : Nat) (bs' : List Addr), m = k + 1 - (S.bk.length + i) ∧ (i = 0 ∨ S.bk.length + i ≤ k + 1) ∧ σ = [some (.ref p), some (.int k)] ∧ BksAt H' bl bs' (S.bk ++ List.replicate i []) ∧ H' p = some (.ins a.C_Store dx (sf S.base S.last S.many S.moves bl)) ∧ Kp (p :: bl :: bs) H (p :: bl :: bs') H',
      ⟨_, 0, bs, rfl, Or.inl rfl, rfl, by simpa using B, ob, Kp.refl _ _⟩, ?_⟩
    rintro m σ H1 ⟨i, bs', rfl, hi, rfl, B1, o1, K1⟩
    have hl1 : bs'.length = S.bk.length + i := by rw [B1.len, List.length_append, List.length_replicate]
    refine ⟨_, rfl, p, _, dx, _, _, rfl, o1, T.cl_Store, T.nf_Store_buckets, sf_buckets _ _ _ _ _, _, _, rfl, Or.inl ⟨_, SqL.of B1.li, rfl⟩, _, rfl, _, _, rfl, rfl, _, rfl, ?_⟩
    rw [List.length_map]
    refine ifd (fun c => ?_) (fun c => ?_)
    · refine ⟨fun σ' H' => ∃ (bs' : List Addr), σ' = [some (.ref p), some (.int k)] ∧ BksAt H' bl bs' (S.bk ++ List.replicate (i + 1) []) ∧ H' p = some (.ins a.C_Store dx (sf S.base S.last S.many S.moves bl)) ∧ Kp (p :: bl :: bs) H (p :: bl :: bs') H', ?_, ?_⟩
      · rintro σ' H' ⟨bs2, e1, e2, e3, e4⟩
        exact ⟨k + 1 - (S.bk.length + (i + 1)), by omega, i + 1, bs2, rfl, Or.inr (by omega), e1, e2, e3, e4⟩
      · refine ⟨_, rfl, p, _, dx, _, _, rfl, o1, T.cl_Store, T.nf_Store_buckets, sf_buckets _ _ _ _ _, Or.inl ⟨rfl, _, SqL.of B1.li⟩, Nat.zero_le _, fun l hl => ?_⟩
        have nbl : bl ≠ l := ne_of_none B1.li hl
        have npl : p ≠ l := ne_of_none o1 hl
        have npb : p ≠ bl := ne_of o1 B1.li (by intro z; cases z)
        refine ⟨bl, _, _, rfl, rfl, by rw [upd_ne nbl]; exact B1.li, ?_, bs' ++ [l], rfl, ?_, ?_, ?_⟩
        · rw [List.length_map]
          exact Nat.lt_of_le_of_lt (show bs'.length ≤ 20002 by omega) (by decide)
        · rw [ext_add]
          exact B1.grow hl
        · rw [upd_ne npb, upd_ne npl]
          exact o1
        · exact K1.trans (kp_grow hl)
    · have hkl : k < (S.bk ++ List.replicate i []).length := by
        rw [List.length_append, List.length_replicate]
        omega
      have ee : S.bk ++ List.replicate i [] = ext S.bk k := by
        unfold ext
        rcases hi with rfl | hi
        · rw [show k + 1 - S.bk.length = 0 by omega]
        · rw [show k + 1 - S.bk.length = i by omega]
      obtain ⟨b, ts, e1, e2, _, hm, _⟩ := B1.get hkl
      refine ⟨_, rfl, p, _, dx, _, _, rfl, o1, T.cl_Store, T.nf_Store_buckets, sf_buckets _ _ _ _ _, _, rfl, bl, _, _, _, rfl, rfl, SqL.of B1.li, atI_nat (j := k) (v := V.ref b) (by rw [List.getElem?_map, e1]; rfl), ?_⟩
      rw [ee] at B1
      exact q bs' b H1 ⟨⟨dx, o1⟩, B1⟩ e1 K1
theorem sc_Store_put : FnScope ["self", "number", "name"] ["self", "number", "name"] (defScope s_Store_put) := ⟨rfl, rfl, rfl, by decide +kernel, rfl, by decide +kernel, by decide +kernel⟩
def sp_Store_put (a : Ad) : Sp := fun vs H Q E => ∃ (p bl : Addr) (bs : List Addr) (S : Sto Str) (n : Int) (x : Str), vs = [.ref p, .int n, .str x] ∧ StoreAt a.C_Store H p bl bs S ∧ S.Ok ∧ S.bk.length ≤ 10001 ∧ S.many ≤ 10000 ∧ NameOk x ∧
  (n < 0 → E (.ref a.C_NoNumber) none H) ∧ (0 ≤ n → n < S.last → E (.ref a.C_Late) none H) ∧
  (∀ n' : Nat, n = n' → S.last ≤ n' → part S.base n' S.last ≤ 10000 ∧ ∀ (bs' : List Addr) (H' : Hp), StoreAt a.C_Store H' p bl bs' (S.put n' x) → Kp (p :: bl :: bs) H (p :: bl :: bs') H' → Q .non H')
theorem ok_Store_put {P : Program} {w : World} {K : PySem.W.Frag} {mg : Str → Option Value} {base : Heap} {a : Ad} (T : Txt K mg a) : FnOk P w K mg base (L2N.CX P w) 3 a.f_Store_put a.d_Store_put ["self", "number", "name"] (sp_Store_put a) := by
  have G_need_number := @ok_need_number P w K mg base a T
  have G_Store_room := @ok_Store_room P w K mg base a T
  have G_parting := @ok_parting P w K mg base a T
  refine okN T.F_Store_put sc_Store_put (fun vs H Q E h => ?_) (fun cdv A outer s H vs Q E hr h => ?_)
  · obtain ⟨_, _, _, _, _, _, rfl, _⟩ := h
    rfl
  · obtain ⟨p, bl, bs, S, n, x, rfl, A, O, hl, hm, hx, h1, h2, h3⟩ := h
    obtain ⟨⟨dx, ob⟩, B⟩ := id A
    refine ⟨_, (pss_cons (ps_expr (pe_call G_need_number (hr.mono (by decide)) rfl T.m_need_number T.F_need_number.kp T.b_need_number .nil (L2N.passes_call (L2N.takes_of rfl rfl rfl rfl) (fun _ _ _ _ h => h)) (pa_cons (pv 1) pa_nil)))
      (pss_cons (ps_if (pt_cmpR op_lt (pv 1) (pe_fld (pv 0) rfl) (nomark _)) (pss_one (L2N.ps_raise rfl (L2N.takes_of rfl rfl rfl rfl) (L2N.pmk_own PySem.F.excBase_ValueError T.x_Late T.g_Late T.k_Late (raises_own T.xb_Late T.xt_Late) rfl))) pss_nil)
      (pss_cons (ps_expr (pe_bm PySem.F.plainAttrs_list PySem.F.slot_list_append PySem.F.type_list_append mt_append (pe_meth (pv 0) T.cl_Store T.M_Store_room G_Store_room (hr.mono (by decide)) T.b_Store_room .nil pass0 (pa_cons (pe_call G_parting (hr.mono (by decide)) rfl T.m_parting T.F_parting.kp T.b_parting .nil (L2N.passes_call (L2N.takes_of rfl rfl rfl rfl) (fun _ _ _ _ h => h)) (pa_cons (pv 1) (pa_cons (pe_fld (pv 0) rfl) (pa_cons (pe_fld (pv 0) rfl) pa_nil)))) pa_nil)) (pa_cons (pe_lst (pa_cons (pv 1) (pa_cons (pv 2) (pa_cons pe_int pa_nil)))) pa_nil)))
      (pss_one (ps_fld (pv 0) (pe_op op_add (pe_fld (pv 0) rfl) pe_int) rfl))))), ?_⟩
    refine ⟨_, rfl, n, rfl, h1, fun c0 => ?_⟩
    refine ⟨_, rfl, _, rfl, p, _, dx, _, _, rfl, ob, T.cl_Store, T.nf_Store_last, sf_last _ _ _ _ _, _, _, rfl, rfl, _, rfl, ifd (fun c => h2 c0 c) (fun c => ?_)⟩
    obtain ⟨n0, rfl⟩ := nat_of c0
    obtain ⟨hp, q⟩ := h3 n0 rfl (by omega)
    refine ⟨_, rfl, p, dx, _, rfl, ob, sf_m_room _ _ _ _ _, _, rfl, _, rfl, p, _, dx, _, _, rfl, ob, T.cl_Store, T.nf_Store_last, sf_last _ _ _ _ _, _, rfl, p, _, dx, _, _, rfl, ob, T.cl_Store, T.nf_Store_base, sf_base _ _ _ _ _, n0, S.last, S.base, rfl, fun z => ?_, fun _ _ z => ?_, fun x' y' b' e1 e2 e3 _ _ => ?_⟩
    · have := O.b2
      have := O.b16
      omega
    · omega
    obtain rfl : n0 = x' := by omega
    obtain rfl : S.last = y' := by omega
    obtain rfl : S.base = b' := by omega
    refine ⟨p, bl, bs, S, part S.base n0 S.last, rfl, A, hp, hl, fun bs1 b H1 A1 eb K1 => ?_⟩
    obtain ⟨⟨dx1, ob1⟩, B1⟩ := id A1
    obtain ⟨ts, e1, q1⟩ := B1.at_ _ b eb
    have hlt : ts.length ≤ 10000 := by
      have z := tot_getD (ext S.bk (part S.base n0 S.last)) (part S.base n0 S.last)
      rw [tot_ext] at z
      have z1 := q1.len
      have z2 := O.tot
      have z3 : (ext S.bk (part S.base n0 S.last)).getD (part S.base n0 S.last) [] = ({ S with bk := ext S.bk (part S.base n0 S.last) } : Sto Str).bk.getD (part S.base n0 S.last) [] := rfl
      rw [z3, ← z1] at z
      omega
    refine ⟨Or.inl ⟨rfl, _, SqL.of e1⟩, _, rfl, _, rfl, (by show 3 ≤ sizeLine; decide), fun t ht => ?_⟩
    have nbt : b ≠ t := ne_of_none e1 ht
    refine ⟨b, _, _, rfl, rfl, by rw [upd_ne nbt]; exact e1, ?_, ?_⟩
    · rw [List.length_map]
      exact Nat.lt_of_le_of_lt hlt (by decide)
    have hbm : b ∈ bs1 := List.mem_of_getElem? eb
    have npb : p ≠ b := fun z => A1.p_bs (by rw [z]; exact hbm)
    have npt : p ≠ t := ne_of_none ob1 ht
    have ob2 : (upd (upd H1 t (.lst [.int n0, .str x, .int 0])) b (.lst (ts.map V.ref ++ [.ref t]))) p = some (.ins a.C_Store dx1 (sf S.base S.last S.many S.moves bl)) := by
      rw [upd_ne npb, upd_ne npt]
      exact ob1
    have B2 := B1.push eb e1 q1 ht ⟨n0, x, 0⟩ hx
    refine ⟨_, rfl, p, _, dx1, _, _, rfl, ob2, T.cl_Store, T.nf_Store_many, sf_many _ _ _ _ _, _, _, rfl, rfl, _, rfl, p, _, dx1, _, rfl, ob2, T.cl_Store, T.nf_Store_many, sf_len _ _ _ _ _, ?_⟩
    refine q bs1 _ ⟨⟨dx1, ?_⟩, B2.set_ins ob2⟩ (K1.trans ((kp_new ht).trans ((kp_upd (by simp [hbm])).trans (kp_upd (by simp)))))
    rw [upd_same, sf_put_many]
    rfl
theorem sc_Store_lowest : FnScope ["self", "place"] ["self"] (defScope s_Store_lowest) := ⟨rfl, rfl, rfl, by decide +kernel, rfl, by decide +kernel, by decide +kernel⟩
def sp_Store_lowest (a : Ad) : Sp := fun vs H Q E => ∃ (p bl : Addr) (bs : List Addr) (S : Sto Str), vs = [.ref p] ∧ StoreAt a.C_Store H p bl bs S ∧ S.Ok ∧ (S.many = 0 → E (.ref a.C_Bare) none H) ∧
  (0 < S.many → ∀ H', Same H H' → Q (.int (low S.bk)) H')
/-- a bucket as data -/
def thD (h : Th Str) : PyData := .list [.int h.n, .str h.x, .int h.c]
theorem ths_dp {K : PySem.W.Frag} {H : Hp} : ∀ {ts : List Addr} {hs : List (Th Str)}, Ths H ts hs → DpAll K H (ts.map V.ref) (hs.map thD)
  | [], [], _ => .nil
  | t :: ts, h :: hs, q => .cons (.lst (SqL.of q.1.1) (.cons (.int _) (.cons (.str _) (.cons (.int _) .nil)))) (ths_dp q.2)
  | [], _ :: _, q => q.elim
  | _ :: _, [], q => q.elim
theorem ths_can {H : Hp} : ∀ {ts : List Addr} {hs : List (Th Str)}, Ths H ts hs → PyData.canLayAll0 (hs.map thD) = true ∧ PyData.depthAll (hs.map thD) ≤ 2
  | [], [], _ => ⟨by simp [PyData.canLayAll0], by simp [PyData.depthAll]⟩
  | t :: ts, h :: hs, q => by
    obtain ⟨i1, i2⟩ := ths_can q.2
    have e := q.1.2.2
    refine ⟨?_, ?_⟩
    · rw [List.map_cons]
      simp [PyData.canLayAll0, thD, PyData.canLay0, e, i1]
    · rw [List.map_cons]
      simp [PyData.depthAll, thD, PyData.depth]
      omega
  | [], _ :: _, q => q.elim
  | _ :: _, [], q => q.elim
theorem bk_shaped {H : Hp} {ts : List Addr} {hs : List (Th Str)} (q : Ths H ts hs) : SeqAt.shaped (.list (hs.map thD)) = true := by
  obtain ⟨i1, i2⟩ := ths_can q
  unfold SeqAt.shaped
  simp [PyData.canLay0, i1, PyData.depth]
  omega
theorem bk_eqv (hs : List (Th Str)) : PyData.eqv (.list (hs.map thD)) (.list []) = decide (hs = []) := by
  cases hs with
  | nil => simp [PyData.eqv, PyData.eqvAll]
  | cons h r => simp [PyData.eqv, PyData.eqvAll]
theorem ok_Store_lowest {P : Program} {w : World} {K : PySem.W.Frag} {mg : Str → Option Value} {base : Heap} {a : Ad} (T : Txt K mg a) : FnOk P w K mg base (L2N.CX P w) 1 a.f_Store_lowest a.d_Store_lowest ["self"] (sp_Store_lowest a) := by
  skip
  refine okN T.F_Store_lowest sc_Store_lowest (fun vs H Q E h => ?_) (fun cdv A outer s H vs Q E hr h => ?_)
  · obtain ⟨_, _, _, _, rfl, _⟩ := h
    rfl
  · obtain ⟨p, bl, bs, S, rfl, A, O, h1, q⟩ := h
    obtain ⟨⟨dx, ob⟩, B⟩ := id A
    refine ⟨_, (pss_cons (ps_if (pt_cmpR op_eq (pe_fld (pv 0) rfl) pe_int (nomark _)) (pss_one (L2N.ps_raise rfl (L2N.takes_of rfl rfl rfl rfl) (L2N.pmk_own PySem.F.excBase_ValueError T.x_Bare T.g_Bare T.k_Bare (raises_own T.xb_Bare T.xt_Bare) rfl))) pss_nil)
      (pss_cons (ps_set (i := 1) sc_Store_lowest.nd rfl (Or.inl rfl) pe_int)
      (pss_cons (ps_while (passes_of rfl) (pt_cmpR (op_eqD hr.units) (pe_ix ix_list (pe_fld (pv 0) rfl) (pv 1) (fun _ _ => rfl)) (pe_lst pa_nil) (nomark _)) (pss_one (ps_set (i := 1) sc_Store_lowest.nd rfl (Or.inl rfl) (pe_op op_add (pv 1) pe_int))))
      (pss_one (ps_ret (pv 1)))))), ?_⟩
    refine ⟨_, rfl, p, _, dx, _, _, rfl, ob, T.cl_Store, T.nf_Store_many, sf_many _ _ _ _ _, rfl, _, rfl, ifi (fun c => h1 (by omega)) (fun c => ?_)⟩
    have hm : 0 < S.many := by omega
    obtain ⟨l1, l2, l3⟩ := low_spec (bk := S.bk) (by rw [← O.tot]; exact hm)
    refine ⟨fun m σ H' => ∃ j : Nat, m = S.bk.length - j ∧ j ≤ low S.bk ∧ Same H H' ∧ σ = [some (.ref p), some (.int j)], ⟨_, 0, rfl, Nat.zero_le _, Same.refl H, rfl⟩, ?_⟩
    rintro m σ H1 ⟨j, rfl, hj, s1, rfl⟩
    have ob1 := s1 _ _ ob
    have B1 := B.keep fun b xs e => s1 b _ e
    obtain ⟨b, ts, e1, e2, q2, hbm, nbl⟩ := B1.get (j := j) (by omega)
    have eat : atI (bs.map V.ref) (j : Int) = some (V.ref b) := atI_nat (by rw [List.getElem?_map, e1]; rfl)
    refine ⟨_, rfl, p, _, dx, _, _, rfl, ob1, T.cl_Store, T.nf_Store_buckets, sf_buckets _ _ _ _ _, _, rfl, bl, _, _, _, rfl, rfl, SqL.of B1.li, eat, Nat.zero_le _, fun l hl => ?_⟩
    have s2 : Same H1 (upd H1 l (.lst [])) := same_upd1 hl
    have e3 := s2 _ _ e2
    have q3 : Ths (upd H1 l (.lst [])) ts (S.bk.getD j []) := q2.mono fun t h z => ⟨s2 _ _ z.1, z.2⟩
    refine ⟨.list ((S.bk.getD j []).map thD), .list [], .lst (SqL.of e3) (ths_dp q3), .lst (SqL.of upd_same) .nil, bk_shaped q3, by decide +kernel, _, rfl, ?_⟩
    rw [bk_eqv]
    refine ifd (fun c => ?_) (fun c => ?_)
    · have hj2 : j < low S.bk := by
        rcases Nat.lt_or_ge j (low S.bk) with z | z
        · exact z
        · have e : j = low S.bk := by omega
          rw [e] at c
          exact absurd c l2
      refine ⟨fun σ' H' => Same H H' ∧ σ' = [some (.ref p), some (.int ((j + 1 : Nat) : Int))], fun σ' H' h => ⟨S.bk.length - (j + 1), by omega, j + 1, rfl, hj2, h.1, h.2⟩, ?_⟩
      exact ⟨_, rfl, _, _, rfl, rfl, s1.trans s2, rfl⟩
    · have e : j = low S.bk := by
        rcases Nat.lt_or_ge j (low S.bk) with z | z
        · exact absurd (l3 j z) c
        · omega
      rw [← e] at q
      exact ⟨_, rfl, q hm _ (s1.trans s2)⟩
theorem sc_Store_fall : FnScope ["self", "place", "things", "thing", "stay", "lower"] ["self", "place"] (defScope s_Store_fall) := ⟨rfl, rfl, rfl, by decide +kernel, rfl, by decide +kernel, by decide +kernel⟩
def sp_Store_fall (C : Addr) : Sp := fun vs H Q _ => ∃ (p bl : Addr) (bs : List Addr) (S : Sto Str) (k : Nat), vs = [.ref p, .int k] ∧ StoreAt C H p bl bs S ∧ S.Ok ∧ k < S.bk.length ∧ S.bk.getD k [] ≠ [] ∧ S.many ≤ 10000 ∧
  ∀ (bs' : List Addr) (H' : Hp), StoreAt C H' p bl bs' (S.fall k) → Kp (p :: bl :: bs) H (p :: bl :: bs') H' → Q .non H'
theorem run_len {S : Sto Str} {k : Nat} (hk : k < S.bk.length) (hs : List (Th Str)) : (S.run k hs).1.length = S.bk.length ∧ (S.run k hs).2.1.length ≤ hs.length ∧ tot (S.run k hs).1 + (S.run k hs).2.1.length = tot S.bk + hs.length := by
  have R := run_fell S hk hs
  refine ⟨R.len, ?_, R.tot⟩
  rw [R.stay]
  exact List.length_filter_le _ _
theorem run_next (S : Sto Str) (k : Nat) (hs : List (Th Str)) (h : Th Str) : S.run k (hs ++ [h]) = fstep S.base k (minN (S.bk.getD k [])) (S.run k hs) h := by
  unfold Sto.run
  rw [List.foldl_append]
  rfl
theorem ok_Store_fall {P : Program} {w : World} {K : PySem.W.Frag} {mg : Str → Option Value} {base : Heap} {a : Ad} (T : Txt K mg a) : FnOk P w K mg base CX0 3 a.f_Store_fall a.d_Store_fall ["self", "place"] (sp_Store_fall a.C_Store) := by
  have G_parting := @ok_parting P w K mg base a T
  refine T.F_Store_fall.ok sc_Store_fall (fun vs H Q E h => ?_) (fun cdv A outer s H vs Q E hr h => ?_)
  · obtain ⟨_, _, _, _, _, rfl, _⟩ := h
    rfl
  · obtain ⟨p, bl, bs, S, k, rfl, A, O, hk, hne, hm, q⟩ := h
    obtain ⟨⟨dx, ob⟩, B⟩ := id A
    refine ⟨_, (pss_cons (ps_set (i := 2) sc_Store_fall.nd rfl (Or.inl rfl) (pe_ix ix_list (pe_fld (pv 0) rfl) (pv 1) (fun _ _ => rfl)))
      (pss_cons (ps_fld (pv 0) (pe_callB (cr_min rfl) rfl T.n_min (by decide +kernel) (pa_cons (pe_lc (own := [("thing", 3)]) (g := gName 3) (tt := tYes) rfl sc_Store_fall.nd (pi_list (pv 2)) (blkOk_by (N := ["self", "place", "things", "thing", "stay", "lower"]) (sc := defScope s_Store_fall) (by decide +kernel)) (fun _ _ _ _ _ => pg_name (i := 3) sc_Store_fall.nd rfl (Or.inl rfl)) (fun _ _ _ _ _ => pts_nil) (fun _ _ _ _ _ => (pe_ix (show IxR _ (rIxL K) from ix_list) (pv 3) pe_int (fun _ _ => rfl)))) pa_nil)) rfl)
      (pss_cons (ps_set (i := 4) sc_Store_fall.nd rfl (Or.inl rfl) (pe_lst pa_nil))
      (pss_cons (ps_for PassesOwn.never rfl (pi_list (pv 2)) (pg_name (i := 3) sc_Store_fall.nd rfl (Or.inl rfl)) (pss_cons (ps_set (i := 5) sc_Store_fall.nd rfl (Or.inl rfl) (pe_call G_parting (hr.mono (by decide)) rfl T.m_parting T.F_parting.kp T.b_parting .nil passN (pa_cons (pe_ix ix_list (pv 3) pe_int (fun _ _ => rfl)) (pa_cons (pe_fld (pv 0) rfl) (pa_cons (pe_fld (pv 0) rfl) pa_nil)))))
      (pss_one (ps_if (pt_cmpR op_lt (pv 5) (pv 1) (nomark _)) (pss_cons (ps_expr (pe_bm PySem.F.plainAttrs_list PySem.F.slot_list_append PySem.F.type_list_append mt_append (pe_ix ix_list (pe_fld (pv 0) rfl) (pv 5) (fun _ _ => rfl)) (pa_cons (pe_lst (pa_cons (pe_ix ix_list (pv 3) pe_int (fun _ _ => rfl)) (pa_cons (pe_ix ix_list (pv 3) pe_int (fun _ _ => rfl)) (pa_cons (pe_op op_add (pe_ix ix_list (pv 3) pe_int (fun _ _ => rfl)) pe_int) pa_nil)))) pa_nil)))
      (pss_one (ps_fld (pv 0) (pe_op op_add (pe_fld (pv 0) rfl) pe_int) rfl))) (pss_one (ps_expr (pe_bm PySem.F.plainAttrs_list PySem.F.slot_list_append PySem.F.type_list_append mt_append (pv 4) (pa_cons (pv 3) pa_nil))))))))
      (pss_one (ps_asg (pv 4) (pg_sub (pe_fld (pv 0) rfl) (pv 1) set_list))))))), ?_⟩
    obtain ⟨b, ts, e1, e2, q2, hbm, nbl⟩ := B.get hk
    have eat : atI (bs.map V.ref) (k : Int) = some (V.ref b) := atI_nat (by rw [List.getElem?_map, e1]; rfl)
    have lts : ts.length ≤ 10000 := by
      have z1 := q2.len
      have z2 := tot_getD S.bk k
      have z3 := O.tot
      omega
    have npb : p ≠ b := fun z => A.p_bs (by rw [z]; exact hbm)
    refine ⟨_, rfl, p, _, dx, _, _, rfl, ob, T.cl_Store, T.nf_Store_buckets, sf_buckets _ _ _ _ _, _, rfl, bl, _, _, _, rfl, rfl, SqL.of B.li, eat, ?_⟩
    -- the least number of the bucket
    refine ⟨_, rfl, b, rfl, ⟨_, SqL.of e2⟩, fun D hD => ?_⟩
    have nbD : b ≠ D := ne_of_none e2 hD
    refine lc_list (K := K) (a := b) (xs := ts.map V.ref) (fun i H1 => H1 = upd H D (.lst ((((S.bk.getD k []).take i).map fun h => (h.n : Int)).map V.int))) rfl (fun i H1 _ e => by rw [e]; exact SqL.of (by rw [upd_ne nbD]; exact e2)) ?_ ?_
    · rintro i y H1 hy rfl
      obtain ⟨t, et, rfl⟩ := get_refs hy
      obtain ⟨h, eh, ah⟩ := q2.get et
      have ah' : (upd H D (.lst ((((S.bk.getD k []).take i).map fun h => (h.n : Int)).map V.int))) t = some (.lst [.int h.n, .str h.x, .int h.c]) := by
        rw [upd_ne (ne_of_none ah.1 hD)]
        exact ah.1
      have hi : i < (S.bk.getD k []).length := (List.getElem?_eq_some_iff.mp eh).1
      have lq := q2.len
      refine ⟨rfl, _, rfl, t, _, _, _, rfl, rfl, SqL.of ah', atI_nat (j := 0) rfl, _, upd_same, ?_, ?_⟩
      · rw [List.length_map, List.length_map, List.length_take]
        exact Nat.lt_of_le_of_lt (Nat.min_le_left _ _) (Nat.lt_of_lt_of_le (show i < 20000 by omega) (by decide))
      · rw [upd_upd, List.take_add_one, eh, List.map_append, List.map_append]
        rfl
    rintro H1 e1'
    have lq := q2.len
    have H1e : H1 = upd H D (.lst (((S.bk.getD k []).map fun h => (h.n : Int)).map V.int)) := by
      rw [e1', List.length_map, lq, List.take_length]
    have s1 : Same H H1 := by rw [H1e]; exact same_upd1 hD
    refine ⟨D, (S.bk.getD k []).map fun h => (h.n : Int), rfl, SqL.of (by rw [H1e, upd_same]), ?_, fun m hm1 hm2 => ?_⟩
    · rw [List.length_map]
      exact List.length_pos_iff.mpr hne
    obtain ⟨m0, rfl⟩ : ∃ m0 : Nat, m = m0 := by
      obtain ⟨g, _, e⟩ := List.mem_map.mp hm1
      exact ⟨g.n, e.symm⟩
    have em : m0 = minN (S.bk.getD k []) := minN_unique (by
      obtain ⟨g, hg, e⟩ := List.mem_map.mp hm1
      exact ⟨g, hg, by have e' : (g.n : Int) = m0 := e; omega⟩) fun g hg => by
      have e' : (m0 : Int) ≤ (g.n : Int) := hm2 _ (List.mem_map.mpr ⟨g, hg, rfl⟩)
      omega
    have ob1 := s1 _ _ ob
    have B1 := B.keep fun b xs e => s1 b _ e
    refine ⟨_, rfl, p, _, dx, _, rfl, ob1, T.cl_Store, T.nf_Store_last, sf_len _ _ _ _ _, ?_⟩
    have ob2 : (upd H1 p (.ins a.C_Store dx (putF "last" (.int m0) (sf S.base S.last S.many S.moves bl)))) p = some (.ins a.C_Store dx (sf S.base m0 S.many S.moves bl)) := by
      rw [upd_same, sf_put_last]
    have B2 := B1.set_ins (fs' := putF "last" (.int m0) (sf S.base S.last S.many S.moves bl)) ob1
    have K2 : Kp (p :: bl :: bs) H (p :: bl :: bs) (upd H1 p (.ins a.C_Store dx (putF "last" (.int m0) (sf S.base S.last S.many S.moves bl)))) := (Kp.same s1).trans (kp_upd (by simp))
    have e22 : (upd H1 p (.ins a.C_Store dx (putF "last" (.int m0) (sf S.base S.last S.many S.moves bl)))) b = some (.lst (ts.map V.ref)) := by
      rw [upd_ne npb.symm]
      exact s1 _ _ e2
    generalize upd H1 p (.ins a.C_Store dx (putF "last" (.int m0) (sf S.base S.last S.many S.moves bl))) = H2 at ob2 B2 K2 e22
    -- stay = []
    refine ⟨Nat.zero_le _, fun st hst => ?_⟩
    have A2 : StoreAt a.C_Store H2 p bl bs { S with last := m0 } := ⟨⟨dx, ob2⟩, B2⟩
    have sto : st ∉ p :: bl :: bs := A2.new_out hst
    have stH : H st = none := by
      cases z : H st with
      | none => rfl
      | some o =>
        have := (K2 _ _ z sto).1
        rw [hst] at this
        cases this
    have nbst : b ≠ st := fun z => sto (by rw [← z]; simp [hbm])
    have s3 : Same H2 (upd H2 st (.lst [])) := same_upd1 hst
    refine ⟨_, rfl, b, rfl, ⟨_, SqL.of (s3 _ _ e22)⟩, ?_⟩
    refine for_list (K := K) (a := b) (xs := ts.map V.ref) (fun i σ H3 => ∃ (sts : List Addr) (v3 v5 : Option V), σ = [some (.ref p), some (.int k), some (.ref b), v3, some (.ref st), v5] ∧ BksAt H3 bl bs (S.run k ((S.bk.getD k []).take i)).1 ∧ H3 p = some (.ins a.C_Store dx (sf S.base m0 S.many ((S.run k ((S.bk.getD k []).take i)).2.2 : Nat) bl)) ∧
        H3 b = some (.lst (ts.map V.ref)) ∧ H3 st = some (.lst (sts.map V.ref)) ∧ Ths H3 sts (S.run k ((S.bk.getD k []).take i)).2.1 ∧ Kp (p :: bl :: bs) H (p :: bl :: bs) H3)
      ⟨[], none, none, rfl, B2.keep fun c xs e => s3 c _ e, s3 _ _ ob2, s3 _ _ e22, upd_same, trivial, K2.trans (Kp.same s3)⟩ (fun i σ H3 _ ⟨_, _, _, _, _, _, e, _⟩ => SqL.of e) ?_ ?_
    · rintro i y σ H3 hy ⟨sts, v3, v5, rfl, B3, ob3, e3, est3, Q3, K3⟩
      obtain ⟨t, et, rfl⟩ := get_refs hy
      obtain ⟨h, eh, ah⟩ := q2.get et
      have hi : i < (S.bk.getD k []).length := (List.getElem?_eq_some_iff.mp eh).1
      have at3 : H3 t = some (.lst [.int h.n, .str h.x, .int h.c]) := (K3 _ _ ah.1 (A.th_out ah)).1
      have rn : S.run k ((S.bk.getD k []).take (i + 1)) = fstep S.base k m0 (S.run k ((S.bk.getD k []).take i)) h := by
        rw [List.take_add_one, eh, em]
        exact run_next _ _ _ _
      obtain ⟨r1, r2, r3⟩ := run_len hk ((S.bk.getD k []).take i)
      generalize S.run k ((S.bk.getD k []).take i) = R at *
      obtain ⟨Rb, Rs, Rm⟩ := R
      dsimp only at B3 ob3 Q3 r1 r2 r3
      have b2 := O.b2
      have b16 := O.b16
      refine ⟨_, rfl, t, _, _, _, rfl, rfl, SqL.of at3, atI_nat (j := 0) rfl, _, rfl, p, _, dx, _, _, rfl, ob3, T.cl_Store, T.nf_Store_last, sf_last _ _ _ _ _, _, rfl, p, _, dx, _, _, rfl, ob3, T.cl_Store, T.nf_Store_base, sf_base _ _ _ _ _, h.n, m0, S.base, rfl, fun z => by omega, fun _ _ z => by omega, fun x' y' b' z1 z2 z3 _ _ => ?_⟩
      obtain rfl : h.n = x' := by omega
      obtain rfl : m0 = y' := by omega
      obtain rfl : S.base = b' := by omega
      refine ⟨_, rfl, _, rfl, _, _, rfl, rfl, _, rfl, ifd (fun c => ?_) (fun c => ?_)⟩
      · have hlo : part S.base h.n m0 < k := by omega
        have hlo2 : part S.base h.n m0 < Rb.length := by omega
        obtain ⟨c1, us, f1, f2, f3, fm, fn⟩ := B3.get hlo2
        have eat2 : atI (bs.map V.ref) ((part S.base h.n m0 : Nat) : Int) = some (V.ref c1) := atI_nat (by rw [List.getElem?_map, f1]; rfl)
        have ncb : c1 ≠ b := fun z => by
          have := nd_ix (List.nodup_cons.mp B.nd).2 f1 (by rw [z]; exact e1)
          omega
        have lus : us.length ≤ 20000 := by
          have w1 := f3.len
          have w2 := tot_getD Rb (part S.base h.n m0)
          have w3 := O.tot
          have w4 := tot_getD S.bk k
          rw [List.length_take] at r3
          omega
        refine ⟨_, rfl, p, _, dx, _, _, rfl, ob3, T.cl_Store, T.nf_Store_buckets, sf_buckets _ _ _ _ _, _, rfl, bl, _, _, _, rfl, rfl, SqL.of B3.li, eat2, Or.inl ⟨rfl, _, SqL.of f2⟩, _, rfl, t, _, _, _, rfl, rfl, SqL.of at3, atI_nat (j := 0) rfl, _, rfl, t, _, _, _, rfl, rfl, SqL.of at3, atI_nat (j := 1) rfl, _, rfl, t, _, _, _, rfl, rfl, SqL.of at3, atI_nat (j := 2) rfl, _, _, rfl, rfl, (by show 3 ≤ sizeLine; decide), fun u hu => ?_⟩
        have ncu : c1 ≠ u := ne_of_none f2 hu
        have npc : p ≠ c1 := fun z => A.p_bs (by rw [z]; exact fm)
        have npu : p ≠ u := ne_of_none ob3 hu
        refine ⟨c1, _, _, rfl, rfl, by rw [upd_ne ncu]; exact f2, ?_, ?_⟩
        · rw [List.length_map]
          exact Nat.lt_of_le_of_lt lus (by decide)
        have B4 := B3.push f1 f2 f3 hu (bump h) ah.2
        have ob4 : (upd (upd H3 u (.lst [.int h.n, .str h.x, .int ((bump h).c : Int)])) c1 (.lst (us.map V.ref ++ [.ref u]))) p = some (.ins a.C_Store dx (sf S.base m0 S.many Rm bl)) := by
          rw [upd_ne npc, upd_ne npu]
          exact ob3
        have K4 : Kp (p :: bl :: bs) H (p :: bl :: bs) (upd (upd H3 u (.lst [.int h.n, .str h.x, .int ((bump h).c : Int)])) c1 (.lst (us.map V.ref ++ [.ref u]))) := K3.trans ((kp_new hu).trans (kp_upd (by simp [fm])))
        have nst : st ≠ c1 := fun z => sto (by rw [z]; simp [fm])
        have nstu : st ≠ u := ne_of_none est3 hu
        have e4 : (upd (upd H3 u (.lst [.int h.n, .str h.x, .int ((bump h).c : Int)])) c1 (.lst (us.map V.ref ++ [.ref u]))) b = some (.lst (ts.map V.ref)) := by
          rw [upd_ne ncb.symm, upd_ne (ne_of_none e3 hu)]
          exact e3
        have est4 : (upd (upd H3 u (.lst [.int h.n, .str h.x, .int ((bump h).c : Int)])) c1 (.lst (us.map V.ref ++ [.ref u]))) st = some (.lst (sts.map V.ref)) := by
          rw [upd_ne nst, upd_ne nstu]
          exact est3
        have Q4 : Ths (upd (upd H3 u (.lst [.int h.n, .str h.x, .int ((bump h).c : Int)])) c1 (.lst (us.map V.ref ++ [.ref u]))) sts Rs := Q3.mono fun d g z => ⟨by rw [upd_ne (th_ne z f2), upd_ne (ne_of_none z.1 hu)]; exact z.1, z.2⟩
        refine ⟨_, rfl, p, _, dx, _, _, rfl, ob4, T.cl_Store, T.nf_Store_moves, sf_moves _ _ _ _ _, _, _, rfl, rfl, _, rfl, p, _, dx, _, rfl, ob4, T.cl_Store, T.nf_Store_moves, sf_len _ _ _ _ _, ?_⟩
        have rn2 : S.run k ((S.bk.getD k []).take (i + 1)) = (addAt Rb (part S.base h.n m0) (bump h), Rs, Rm + 1) := by
          rw [rn]
          unfold fstep
          rw [if_pos hlo]
        rw [rn2]
        refine ⟨sts, some (.ref t), some (.int (part S.base h.n m0 : Nat)), rfl, B4.set_ins ob4, ?_, ?_, ?_, ?_, K4.trans (kp_upd (by simp))⟩
        · rw [upd_same, sf_put_moves]
          rfl
        · rw [upd_ne npb.symm]
          exact e4
        · rw [upd_ne (fun z => sto (by rw [z]; simp))]
          exact est4
        · exact Q4.mono fun d g z => ⟨by rw [upd_ne (th_ne_ins z ob4)]; exact z.1, z.2⟩
      · have hlo : ¬ part S.base h.n m0 < k := by omega
        have rn2 : S.run k ((S.bk.getD k []).take (i + 1)) = (Rb, Rs ++ [h], Rm) := by
          rw [rn]
          unfold fstep
          rw [if_neg hlo]
        refine ⟨_, rfl, Or.inl ⟨rfl, _, SqL.of est3⟩, _, rfl, st, _, _, rfl, rfl, est3, ?_, ?_⟩
        · rw [List.length_map, Q3.len]
          rw [List.length_take] at r2
          exact Nat.lt_of_le_of_lt (show Rs.length ≤ 20000 by omega) (by decide)
        rw [rn2]
        have nth : ∀ d g, ThAt H3 d g → ThAt (upd H3 st (.lst (sts.map V.ref ++ [.ref t]))) d g := fun d g z => ⟨by rw [upd_ne (th_ne z est3)]; exact z.1, z.2⟩
        refine ⟨sts ++ [t], some (.ref t), some (.int (part S.base h.n m0 : Nat)), rfl, ?_, ?_, ?_, ?_, ?_, fun c o z n => ?_⟩
        · exact (StoreAt.upd_out (C := a.C_Store) (S := { S with last := m0, moves := Rm, bk := Rb }) ⟨⟨dx, ob3⟩, B3⟩ sto est3).bk
        · rw [upd_ne (fun z => sto (by rw [← z]; simp))]
          exact ob3
        · rw [upd_ne nbst]
          exact e3
        · rw [upd_same, List.map_append]
          rfl
        · exact (Q3.mono nth).app (nth t h ⟨at3, ah.2⟩)
        · obtain ⟨z1, z2⟩ := K3 c o z n
          exact ⟨by rw [upd_ne (ne_of_none z stH)]; exact z1, z2⟩
    · rintro σ H3 ⟨sts, v3, v5, rfl, B3, ob3, e3, est3, Q3, K3⟩
      have et : (S.bk.getD k []).take (ts.map V.ref).length = S.bk.getD k [] := List.take_of_length_le (by rw [List.length_map]; omega)
      rw [et] at B3 ob3 Q3
      have hk3 : k < (S.run k (S.bk.getD k [])).1.length := by
        rw [(run_len hk _).1]
        exact hk
      refine ⟨_, rfl, _, rfl, p, _, dx, _, _, rfl, ob3, T.cl_Store, T.nf_Store_buckets, sf_buckets _ _ _ _ _, _, rfl, bl, _, _, k, rfl, rfl, B3.li, ixN_nat (by rw [List.length_map, B.len]; exact hk), ?_⟩
      have B5 := B3.swap hk3 est3 Q3 (fun z => sto (List.mem_cons_of_mem _ z))
      refine q (bs.set k st) _ ⟨⟨dx, ?_⟩, B5⟩ fun c o z n => ?_
      · rw [upd_ne A.p_bl]
        have e9 : (S.fall k).last = m0 := em.symm
        rw [e9]
        exact ob3
      · obtain ⟨z1, z2⟩ := K3 c o z n
        have nc : c ≠ bl := fun y => n (by rw [y]; simp)
        refine ⟨by rw [upd_ne nc]; exact z1, fun y => ?_⟩
        rcases List.mem_cons.mp y with y | y
        · exact n (by rw [y]; simp)
        · rcases List.mem_cons.mp y with y | y
          · exact nc y
          · rcases List.mem_or_eq_of_mem_set y with y | y
            · exact n (by simp [y])
            · rw [y, stH] at z
              cases z
theorem sc_Store_take : FnScope ["self", "place", "thing"] ["self"] (defScope s_Store_take) := ⟨rfl, rfl, rfl, by decide +kernel, rfl, by decide +kernel, by decide +kernel⟩
def sp_Store_take (a : Ad) : Sp := fun vs H Q E => ∃ (p bl : Addr) (bs : List Addr) (S : Sto Str), vs = [.ref p] ∧ StoreAt a.C_Store H p bl bs S ∧ S.Ok ∧ S.many ≤ 10000 ∧ (S.many = 0 → E (.ref a.C_Bare) none H) ∧
  (0 < S.many → ∀ (bs' : List Addr) (u : Addr) (h : Th Str) (H' : Hp), StoreAt a.C_Store H' p bl bs' S.take → Kp (p :: bl :: bs) H (p :: bl :: bs') H' → (S.pre.bk.getD 0 []).head? = some h → NameOk h.x → H' u = some (.tup [.int h.n, .str h.x, .int h.c]) → Q (.ref u) H')
theorem cut_one (xs : List V) : cutV xs (some 1) none = xs.drop 1 := by
  unfold cutV
  rw [HT.sIx_none, show (1 : Int) = ((1 : Nat) : Int) from rfl, HT.sIx_nat]
  cases xs with
  | nil => rfl
  | cons x r =>
    rw [show min 1 (x :: r).length = 1 by simp]
    exact List.take_of_length_le (by simp)
theorem ok_Store_take {P : Program} {w : World} {K : PySem.W.Frag} {mg : Str → Option Value} {base : Heap} {a : Ad} (T : Txt K mg a) : FnOk P w K mg base (L2N.CX P w) 4 a.f_Store_take a.d_Store_take ["self"] (sp_Store_take a) := by
  have G_Store_lowest := @ok_Store_lowest P w K mg base a T
  have G_Store_fall := @ok_Store_fall P w K mg base a T
  refine okN T.F_Store_take sc_Store_take (fun vs H Q E h => ?_) (fun cdv A outer s H vs Q E hr h => ?_)
  · obtain ⟨_, _, _, _, rfl, _⟩ := h
    rfl
  · obtain ⟨p, bl, bs, S, rfl, A, O, hm, h1, q⟩ := h
    obtain ⟨⟨dx, ob⟩, B⟩ := id A
    refine ⟨_, (pss_cons (ps_set (i := 1) sc_Store_take.nd rfl (Or.inl rfl) (pe_meth0 (pv 0) T.cl_Store T.M_Store_lowest G_Store_lowest (hr.mono (by decide)) T.b_Store_lowest .nil (L2N.passes_call (L2N.takes_of rfl rfl rfl rfl) (fun _ _ _ _ h => h))))
      (C8.pss_cut (ps_if (pt_cmpR op_gt (pv 1) pe_int (nomark _)) (pss_one (ps_expr (pe_meth (pv 0) T.cl_Store T.M_Store_fall G_Store_fall (hr.mono (by decide)) T.b_Store_fall .nil pass0 (pa_cons (pv 1) pa_nil)))) pss_nil)
      (pss_cons (ps_set (i := 2) sc_Store_take.nd rfl (Or.inl rfl) (pe_ix ix_list (pe_ix ix_list (pe_fld (pv 0) rfl) pe_int (fun _ _ => rfl)) pe_int (fun _ _ => rfl)))
      (pss_cons (ps_asg (pe_slice sl_list (pe_ix ix_list (pe_fld (pv 0) rfl) pe_int (fun _ _ => rfl)) (po_some pe_int) po_none) (pg_sub (pe_fld (pv 0) rfl) pe_int set_list))
      (pss_cons (ps_fld (pv 0) (pe_op op_sub (pe_fld (pv 0) rfl) pe_int) rfl)
      (pss_one (ps_ret (pe_tup (pa_cons (pe_ix ix_list (pv 2) pe_int (fun _ _ => rfl)) (pa_cons (pe_ix ix_list (pv 2) pe_int (fun _ _ => rfl)) (pa_cons (pe_ix ix_list (pv 2) pe_int (fun _ _ => rfl)) pa_nil))))))))))), ?_⟩
    refine ⟨_, rfl, p, dx, _, rfl, ob, sf_m_lowest _ _ _ _ _, p, bl, bs, S, rfl, A, O, h1, fun hpos H1 s1 => ?_⟩
    have A1 := A.keep s1
    have R := ready O hpos
    obtain ⟨l1, l2, l3⟩ := low_spec (bk := S.bk) (by rw [← O.tot]; exact hpos)
    refine ⟨fun σ H2 => ∃ bs2, StoreAt a.C_Store H2 p bl bs2 S.pre ∧ Kp (p :: bl :: bs) H (p :: bl :: bs2) H2 ∧ σ = [some (.ref p), some (.int (low S.bk)), none], ?_, ?_⟩
    · refine ⟨_, rfl, _, _, rfl, rfl, _, rfl, ifd (fun c => ?_) (fun c => ?_)⟩
      · obtain ⟨⟨dx1, ob1⟩, B1⟩ := id A1
        refine ⟨_, rfl, p, dx1, _, rfl, ob1, sf_m_fall _ _ _ _ _, _, rfl, p, bl, bs, S, low S.bk, rfl, A1, O, l1, l2, hm, fun bs2 H2 A2 K2 => ⟨bs2, ?_, (Kp.same s1).trans K2, rfl⟩⟩
        have e : S.pre = S.fall (low S.bk) := if_pos (by omega)
        rw [e]
        exact A2
      · have e : S.pre = S := if_neg (by omega)
        refine ⟨bs, ?_, Kp.same s1, rfl⟩
        rw [e]
        exact A1
    · rintro σ H2 ⟨bs2, A2, K2, rfl⟩
      obtain ⟨⟨dx2, ob2⟩, B2⟩ := id A2
      have hl : 0 < S.pre.bk.length := by
        rcases Nat.lt_or_ge 0 S.pre.bk.length with z | z
        · exact z
        · exact absurd (getD_ge z) R.ne
      obtain ⟨b, ts, e1, e2, q2, hbm, nbl⟩ := B2.get hl
      obtain ⟨h, r, eh⟩ : ∃ h r, S.pre.bk.getD 0 [] = h :: r := by
        cases z : S.pre.bk.getD 0 [] with
        | nil => exact absurd z R.ne
        | cons h r => exact ⟨h, r, rfl⟩
      obtain ⟨t, ts', rfl⟩ : ∃ t ts', ts = t :: ts' := by
        cases ts with
        | nil =>
          have := q2.len
          rw [eh] at this
          cases this
        | cons t ts' => exact ⟨t, ts', rfl⟩
      have q2' := q2
      rw [eh] at q2'
      have at2 : ThAt H2 t h := q2'.1
      have eat : atI (bs2.map V.ref) 0 = some (V.ref b) := atI_nat (j := 0) (by rw [List.getElem?_map, e1]; rfl)
      have eat2 : atI ((t :: ts').map V.ref) 0 = some (V.ref t) := atI_nat (j := 0) rfl
      refine ⟨_, rfl, p, _, dx2, _, _, rfl, ob2, T.cl_Store, T.nf_Store_buckets, sf_buckets _ _ _ _ _, bl, _, _, _, rfl, rfl, SqL.of B2.li, eat, b, _, _, _, rfl, rfl, SqL.of e2, eat2, ?_⟩
      refine ⟨_, rfl, p, _, dx2, _, _, rfl, ob2, T.cl_Store, T.nf_Store_buckets, sf_buckets _ _ _ _ _, bl, _, _, _, rfl, rfl, SqL.of B2.li, eat, 1, rfl, b, _, rfl, SqL.of e2, fun l hl2 => ?_⟩
      rw [cut_one]
      have npl : p ≠ l := ne_of_none ob2 hl2
      have nbll : bl ≠ l := ne_of_none B2.li hl2
      have lo : l ∉ p :: bl :: bs2 := A2.new_out hl2
      have A3 := A2.keep (same_upd1 (o := .lst (((t :: ts').map V.ref).drop 1)) hl2)
      obtain ⟨⟨dx3, ob3⟩, B3⟩ := id A3
      refine ⟨_, rfl, p, _, dx3, _, _, rfl, ob3, T.cl_Store, T.nf_Store_buckets, sf_buckets _ _ _ _ _, bl, _, _, 0, rfl, rfl, B3.li, ixN_nat (k := 0) (by rw [List.length_map, B2.len]; exact hl), ?_⟩
      have q3 : Ths (upd H2 l (.lst (((t :: ts').map V.ref).drop 1))) ts' ((S.pre.bk.getD 0 []).drop 1) := by
        rw [eh]
        exact q2'.2.mono fun c g z => ⟨by rw [upd_ne (ne_of_none z.1 hl2)]; exact z.1, z.2⟩
      have B4 := B3.swap (b := l) (ts := ts') hl upd_same q3 (fun z => lo (List.mem_cons_of_mem _ z))
      have ob4 : (upd (upd H2 l (.lst (((t :: ts').map V.ref).drop 1))) bl (.lst ((bs2.map V.ref).set 0 (.ref l)))) p = some (.ins a.C_Store dx3 (sf S.pre.base S.pre.last S.pre.many S.pre.moves bl)) := by
        rw [upd_ne A2.p_bl]
        exact ob3
      refine ⟨_, rfl, p, _, dx3, _, _, rfl, ob4, T.cl_Store, T.nf_Store_many, sf_many _ _ _ _ _, _, _, rfl, rfl, _, rfl, p, _, dx3, _, rfl, ob4, T.cl_Store, T.nf_Store_many, sf_len _ _ _ _ _, ?_⟩
      have B5 := B4.set_ins (fs' := putF "many" (.int ((S.pre.many : Int) - 1)) (sf S.pre.base S.pre.last S.pre.many S.pre.moves bl)) ob4
      have at5 : (upd (upd (upd H2 l (.lst (((t :: ts').map V.ref).drop 1))) bl (.lst ((bs2.map V.ref).set 0 (.ref l)))) p (.ins a.C_Store dx3 (putF "many" (.int ((S.pre.many : Int) - 1)) (sf S.pre.base S.pre.last S.pre.many S.pre.moves bl)))) t = some (.lst [.int h.n, .str h.x, .int h.c]) := by
        have z1 : t ≠ l := ne_of_none at2.1 hl2
        have z2 : t ≠ bl := th_ne at2 B2.li
        have z3 : t ≠ p := th_ne_ins at2 ob2
        rw [upd_ne z3, upd_ne z2, upd_ne z1]
        exact at2.1
      have K5 : Kp (p :: bl :: bs) H (p :: bl :: bs2.set 0 l) (upd (upd (upd H2 l (.lst (((t :: ts').map V.ref).drop 1))) bl (.lst ((bs2.map V.ref).set 0 (.ref l)))) p (.ins a.C_Store dx3 (putF "many" (.int ((S.pre.many : Int) - 1)) (sf S.pre.base S.pre.last S.pre.many S.pre.moves bl)))) := fun c o z n => by
        obtain ⟨z1, z2⟩ := K2 c o z n
        have ncp : c ≠ p := fun y => n (by rw [y]; simp)
        have ncb : c ≠ bl := fun y => n (by rw [y]; simp)
        have ncl : c ≠ l := ne_of_none z1 hl2
        refine ⟨by rw [upd_ne ncp, upd_ne ncb, upd_ne ncl]; exact z1, fun y => ?_⟩
        rcases List.mem_cons.mp y with y | y
        · exact ncp y
        · rcases List.mem_cons.mp y with y | y
          · exact ncb y
          · rcases List.mem_or_eq_of_mem_set y with y | y
            · exact z2 (by simp [y])
            · exact ncl y
      have ob5 : (upd (upd (upd H2 l (.lst (((t :: ts').map V.ref).drop 1))) bl (.lst ((bs2.map V.ref).set 0 (.ref l)))) p (.ins a.C_Store dx3 (putF "many" (.int ((S.pre.many : Int) - 1)) (sf S.pre.base S.pre.last S.pre.many S.pre.moves bl)))) p = some (.ins a.C_Store dx3 (sf S.take.base S.take.last S.take.many S.take.moves bl)) := by
        have z1 : ((S.pre.many : Int) - 1) = ((S.pre.many - 1 : Nat) : Int) := by
          have := R.many
          omega
        rw [upd_same, sf_put_many, z1]
        rfl
      generalize (upd (upd (upd H2 l (.lst (((t :: ts').map V.ref).drop 1))) bl (.lst ((bs2.map V.ref).set 0 (.ref l)))) p (.ins a.C_Store dx3 (putF "many" (.int ((S.pre.many : Int) - 1)) (sf S.pre.base S.pre.last S.pre.many S.pre.moves bl)))) = H5 at B5 at5 K5 ob5
      refine ⟨_, rfl, t, _, _, _, rfl, rfl, SqL.of at5, atI_nat (j := 0) rfl, _, rfl, t, _, _, _, rfl, rfl, SqL.of at5, atI_nat (j := 1) rfl, _, rfl, t, _, _, _, rfl, rfl, SqL.of at5, atI_nat (j := 2) rfl, (by show 3 ≤ sizeLine; decide), fun u hu => ?_⟩
      have A5 : StoreAt a.C_Store H5 p bl (bs2.set 0 l) S.take := ⟨⟨dx3, ob5⟩, B5⟩
      exact q hpos (bs2.set 0 l) u h _ (A5.keep (same_upd1 hu)) (K5.trans (kp_new hu)) (by rw [eh]; rfl) at2.2 upd_same
theorem sc_Store_least : FnScope ["self", "things", "found", "thing"] ["self"] (defScope s_Store_least) := ⟨rfl, rfl, rfl, by decide +kernel, rfl, by decide +kernel, by decide +kernel⟩
def sp_Store_least (a : Ad) : Sp := fun vs H Q E => ∃ (p bl : Addr) (bs : List Addr) (S : Sto Str), vs = [.ref p] ∧ StoreAt a.C_Store H p bl bs S ∧ S.Ok ∧ (S.many = 0 → E (.ref a.C_Bare) none H) ∧
  (0 < S.many → ∀ (h : Th Str) (r : List (Th Str)) (u : Addr) (H' : Hp), S.bk.getD (low S.bk) [] = h :: r → Same H H' → H' u = some (.tup [.int (first h r).n, .str (first h r).x]) → NameOk (first h r).x → Q (.ref u) H')
theorem first_app : ∀ (l : List (Th Str)) (f h : Th Str), first f (l ++ [h]) = if h.n < (first f l).n then h else first f l
  | [], f, h => by
    show (if h.n < f.n then first h [] else first f []) = _
    rfl
  | g :: l, f, h => by
    show (if g.n < f.n then first g (l ++ [h]) else first f (l ++ [h])) = if h.n < (if g.n < f.n then first g l else first f l).n then h else (if g.n < f.n then first g l else first f l)
    by_cases c : g.n < f.n
    · rw [if_pos c, if_pos c]
      exact first_app l g h
    · rw [if_neg c, if_neg c]
      exact first_app l f h
theorem ok_Store_least {P : Program} {w : World} {K : PySem.W.Frag} {mg : Str → Option Value} {base : Heap} {a : Ad} (T : Txt K mg a) : FnOk P w K mg base (L2N.CX P w) 2 a.f_Store_least a.d_Store_least ["self"] (sp_Store_least a) := by
  have G_Store_lowest := @ok_Store_lowest P w K mg base a T
  refine okN T.F_Store_least sc_Store_least (fun vs H Q E h => ?_) (fun cdv A outer s H vs Q E hr h => ?_)
  · obtain ⟨_, _, _, _, rfl, _⟩ := h
    rfl
  · obtain ⟨p, bl, bs, S, rfl, A, O, h1, q⟩ := h
    obtain ⟨⟨dx, ob⟩, B⟩ := id A
    refine ⟨_, (pss_cons (ps_set (i := 1) sc_Store_least.nd rfl (Or.inl rfl) (pe_ix ix_list (pe_fld (pv 0) rfl) (pe_meth0 (pv 0) T.cl_Store T.M_Store_lowest G_Store_lowest (hr.mono (by decide)) T.b_Store_lowest .nil (L2N.passes_call (L2N.takes_of rfl rfl rfl rfl) (fun _ _ _ _ h => h))) (fun _ _ => rfl)))
      (pss_cons (ps_set (i := 2) sc_Store_least.nd rfl (Or.inl rfl) (pe_ix ix_list (pv 1) pe_int (fun _ _ => rfl)))
      (pss_cons (ps_for (passes_of rfl) rfl (pi_list (pv 1)) (pg_name (i := 3) sc_Store_least.nd rfl (Or.inl rfl)) (pss_one (ps_if (pt_cmpR op_lt (pe_ix ix_list (pv 3) pe_int (fun _ _ => rfl)) (pe_ix ix_list (pv 2) pe_int (fun _ _ => rfl)) (nomark _)) (pss_one (ps_set (i := 2) sc_Store_least.nd rfl (Or.inl rfl) (pv 3))) pss_nil)))
      (pss_one (ps_ret (pe_tup (pa_cons (pe_ix ix_list (pv 2) pe_int (fun _ _ => rfl)) (pa_cons (pe_ix ix_list (pv 2) pe_int (fun _ _ => rfl)) pa_nil)))))))), ?_⟩
    refine ⟨_, rfl, p, _, dx, _, _, rfl, ob, T.cl_Store, T.nf_Store_buckets, sf_buckets _ _ _ _ _, _, rfl, p, dx, _, rfl, ob, sf_m_lowest _ _ _ _ _, p, bl, bs, S, rfl, A, O, h1, fun hpos H1 s1 => ?_⟩
    have B1 := B.keep fun b xs e => s1 b _ e
    obtain ⟨l1, l2, l3⟩ := low_spec (bk := S.bk) (by rw [← O.tot]; exact hpos)
    obtain ⟨b, ts, e1, e2, q2, hbm, nbl⟩ := B1.get l1
    obtain ⟨h, r, eh⟩ : ∃ h r, S.bk.getD (low S.bk) [] = h :: r := by
      cases z : S.bk.getD (low S.bk) [] with
      | nil => exact absurd z l2
      | cons h r => exact ⟨h, r, rfl⟩
    rw [eh] at q2
    have eat : atI (bs.map V.ref) ((low S.bk : Nat) : Int) = some (V.ref b) := atI_nat (by rw [List.getElem?_map, e1]; rfl)
    refine ⟨bl, _, _, _, rfl, rfl, SqL.of B1.li, eat, ?_⟩
    obtain ⟨t, ts', rfl⟩ : ∃ t ts', ts = t :: ts' := by
      cases ts with
      | nil =>
        have := q2.len
        cases this
      | cons t ts' => exact ⟨t, ts', rfl⟩
    refine ⟨_, rfl, b, _, _, _, rfl, rfl, SqL.of e2, atI_nat (j := 0) (v := V.ref t) rfl, ?_⟩
    refine ⟨_, rfl, b, rfl, ⟨_, SqL.of e2⟩, ?_⟩
    refine for_list (K := K) (a := b) (xs := (t :: ts').map V.ref) (fun i σ H2 => H2 = H1 ∧ ∃ (f : Addr) (v : Option V), σ = [some (.ref p), some (.ref b), some (.ref f), v] ∧ ThAt H1 f (first h (((h :: r).take i)))) ⟨rfl, t, none, rfl, q2.1⟩ (fun i σ H2 _ ⟨e, _⟩ => by rw [e]; exact SqL.of e2) ?_ ?_
    · rintro i y σ H2 hy ⟨rfl, f, v, rfl, af⟩
      obtain ⟨u, eu, rfl⟩ := get_refs hy
      obtain ⟨g, eg, ag⟩ := q2.get eu
      have en : first h ((h :: r).take (i + 1)) = if g.n < (first h ((h :: r).take i)).n then g else first h ((h :: r).take i) := by
        rw [List.take_add_one, eg]
        exact first_app _ _ _
      refine ⟨_, rfl, u, _, _, _, rfl, rfl, SqL.of ag.1, atI_nat (j := 0) rfl, _, rfl, f, _, _, _, rfl, rfl, SqL.of af.1, atI_nat (j := 0) rfl, _, _, rfl, rfl, _, rfl, ifd (fun c => ?_) (fun c => ?_)⟩
      · refine ⟨_, rfl, rfl, u, some (.ref u), rfl, ?_⟩
        rw [en, if_pos (by omega)]
        exact ag
      · refine ⟨rfl, f, some (.ref u), rfl, ?_⟩
        rw [en, if_neg (by omega)]
        exact af
    · rintro σ H2 ⟨rfl, f, v, rfl, af⟩
      have el : (h :: r).take ((t :: ts').map V.ref).length = h :: r := List.take_of_length_le (by rw [List.length_map]; exact Nat.le_of_eq q2.len.symm)
      have e0 : first h (h :: r) = first h r := by
        show (if h.n < h.n then first h r else first h r) = first h r
        rw [if_neg (Nat.lt_irrefl _)]
      rw [el, e0] at af
      refine ⟨_, rfl, f, _, _, _, rfl, rfl, SqL.of af.1, atI_nat (j := 0) rfl, _, rfl, f, _, _, _, rfl, rfl, SqL.of af.1, atI_nat (j := 1) rfl, (by show 2 ≤ sizeLine; decide), fun u hu => ?_⟩
      exact q hpos h r u _ eh (s1.trans (same_upd1 hu)) upd_same af.2
theorem sc_Store_rows : FnScope ["self", "found", "place", "thing"] ["self"] (defScope s_Store_rows) := ⟨rfl, rfl, rfl, by decide +kernel, rfl, by decide +kernel, by decide +kernel⟩
def sp_Store_rows (C : Addr) : Sp := fun vs H Q _ => ∃ (p bl : Addr) (bs : List Addr) (S : Sto Str), vs = [.ref p] ∧ StoreAt C H p bl bs S ∧ S.bk.length ≤ 10001 ∧ tot S.bk ≤ 10000 ∧
  ∀ (r : Addr) (us : List Addr) (H' : Hp), Same H H' → H r = none → H' r = some (.lst (us.map V.ref)) → Ls (RowAt H') us (rowsFrom 0 S.bk) → (∀ u, u ∈ us → H u = none) → Q (.ref r) H'
theorem rowsFrom_take : ∀ (bk : List (List (Th Str))) (i k : Nat), k < bk.length → rowsFrom i (bk.take (k + 1)) = rowsFrom i (bk.take k) ++ (bk.getD k []).map fun h => (i + k, h)
  | [], i, k, h => by simp at h
  | hs :: r, i, 0, h => by
    show hs.map (fun h => (i, h)) ++ rowsFrom (i + 1) [] = [] ++ hs.map fun h => (i + 0, h)
    simp [rowsFrom]
  | hs :: r, i, k + 1, h => by
    have ih := rowsFrom_take r (i + 1) k (by simpa using h)
    show hs.map (fun h => (i, h)) ++ rowsFrom (i + 1) (r.take (k + 1)) = (hs.map (fun h => (i, h)) ++ rowsFrom (i + 1) (r.take k)) ++ (r.getD k []).map fun h => (i + (k + 1), h)
    rw [ih, List.append_assoc]
    congr 2
    refine List.map_congr_left fun a _ => ?_
    rw [show i + 1 + k = i + (k + 1) by omega]
theorem rowsFrom_len : ∀ (bk : List (List (Th Str))) (i : Nat), (rowsFrom i bk).length = tot bk
  | [], i => rfl
  | hs :: r, i => by
    show (hs.map (fun h => (i, h)) ++ rowsFrom (i + 1) r).length = hs.length + tot r
    rw [List.length_append, List.length_map, rowsFrom_len r]
theorem tot_take : ∀ (bk : List (List (Th Str))) (k : Nat), tot (bk.take k) ≤ tot bk
  | [], k => by simp
  | hs :: r, 0 => by
    show 0 ≤ _
    omega
  | hs :: r, k + 1 => by
    have := tot_take r k
    show hs.length + tot (r.take k) ≤ hs.length + tot r
    omega
theorem ok_Store_rows {P : Program} {w : World} {K : PySem.W.Frag} {mg : Str → Option Value} {base : Heap} {a : Ad} (T : Txt K mg a) : FnOk P w K mg base CX0 1 a.f_Store_rows a.d_Store_rows ["self"] (sp_Store_rows a.C_Store) := by
  skip
  refine T.F_Store_rows.ok sc_Store_rows (fun vs H Q E h => ?_) (fun cdv A outer s H vs Q E hr h => ?_)
  · obtain ⟨_, _, _, _, rfl, _⟩ := h
    rfl
  · obtain ⟨p, bl, bs, S, rfl, A, hl, ht, q⟩ := h
    obtain ⟨⟨dx, ob⟩, B⟩ := id A
    refine ⟨_, (pss_cons (ps_set (i := 1) sc_Store_rows.nd rfl (Or.inl rfl) (pe_lst pa_nil))
      (pss_cons (ps_for PassesOwn.never rfl (pi_range1 rfl T.n_range (pa_cons (pe_callB call_len rfl T.n_len PySem.boot_len (pa_cons (pe_fld (pv 0) rfl) pa_nil)) pa_nil)) (pg_name (i := 2) sc_Store_rows.nd rfl (Or.inl rfl)) (pss_one (ps_for PassesOwn.never rfl (pi_list (pe_ix ix_list (pe_fld (pv 0) rfl) (pv 2) (fun _ _ => rfl))) (pg_name (i := 3) sc_Store_rows.nd rfl (Or.inl rfl)) (pss_one (ps_expr (pe_bm PySem.F.plainAttrs_list PySem.F.slot_list_append PySem.F.type_list_append mt_append (pv 1) (pa_cons (pe_tup (pa_cons (pv 2) (pa_cons (pe_ix ix_list (pv 3) pe_int (fun _ _ => rfl)) (pa_cons (pe_ix ix_list (pv 3) pe_int (fun _ _ => rfl)) (pa_cons (pe_ix ix_list (pv 3) pe_int (fun _ _ => rfl)) pa_nil))))) pa_nil)))))))
      (pss_one (ps_ret (pv 1))))), ?_⟩
    refine ⟨Nat.zero_le _, fun r hr => ?_⟩
    have npr : p ≠ r := ne_of_none ob hr
    have nblr : bl ≠ r := ne_of_none B.li hr
    have s1 : Same H (upd H r (.lst [])) := same_upd1 hr
    have ob1 := s1 _ _ ob
    have li1 := s1 _ _ B.li
    have ebl : ((bs.map V.ref).length : Int) = (S.bk.length : Int) := by rw [List.length_map, B.len]
    refine ⟨_, rfl, p, _, dx, _, _, rfl, ob1, T.cl_Store, T.nf_Store_buckets, sf_buckets _ _ _ _ _, _, _, rfl, Or.inl ⟨_, SqL.of li1, rfl⟩, _, rfl, by omega, by omega, ?_⟩
    refine for_range (lo := 0) (n := (((bs.map V.ref).length : Nat) : Int).toNat) (fun i σ H1 => ∃ (us : List Addr) (v w : Option V), σ = [some (.ref p), some (.ref r), v, w] ∧ Same H H1 ∧ H1 r = some (.lst (us.map V.ref)) ∧ Ls (RowAt H1) us (rowsFrom 0 (S.bk.take i)) ∧ ∀ u, u ∈ us → H u = none)
      ⟨[], none, none, rfl, s1, upd_same, trivial, fun u z => by cases z⟩ ?_ ?_
    · rintro i σ H1 hi ⟨us, v, w, rfl, s2, er, L, fr⟩
      have hi' : i < S.bk.length := by omega
      have ob2 := s2 _ _ ob
      have B2 := B.keep fun b xs e => s2 b _ e
      obtain ⟨b, ts, e1, e2, q2, hbm, nbl⟩ := B2.get hi'
      have nbr : b ≠ r := fun z => by
        obtain ⟨ts0, e0⟩ := B.mem hbm
        rw [z, hr] at e0
        cases e0
      have e2H : H b = some (.lst (ts.map V.ref)) := by
        obtain ⟨ts0, e0⟩ := B.mem hbm
        have e3 := s2 _ _ e0
        rw [e2] at e3
        rw [e0, ← e3]
      have eat : atI (bs.map V.ref) (0 + (i : Int)) = some (V.ref b) := at_of (j := i) (by omega) (by rw [List.getElem?_map, e1]; rfl)
      refine ⟨_, rfl, p, _, dx, _, _, rfl, ob2, T.cl_Store, T.nf_Store_buckets, sf_buckets _ _ _ _ _, _, rfl, bl, _, _, _, rfl, rfl, SqL.of B2.li, eat, b, rfl, ⟨_, SqL.of e2⟩, ?_⟩
      refine for_list (K := K) (a := b) (xs := ts.map V.ref) (fun j σ H2 => ∃ (us : List Addr) (w : Option V), σ = [some (.ref p), some (.ref r), some (.int (0 + (i : Int))), w] ∧ Same H H2 ∧ H2 r = some (.lst (us.map V.ref)) ∧ Ls (RowAt H2) us (rowsFrom 0 (S.bk.take i) ++ ((S.bk.getD i []).take j).map fun h => (i, h)) ∧ ∀ u, u ∈ us → H u = none)
        ⟨us, w, rfl, s2, er, by simpa using L, fr⟩ (fun j σ H2 _ ⟨_, _, _, s3, _⟩ => SqL.of (s3 _ _ e2H)) ?_ ?_
      · rintro j y σ H2 hy ⟨us2, w2, rfl, s3, er2, L2, fr2⟩
        obtain ⟨t, et, rfl⟩ : ∃ t, ts[j]? = some t ∧ y = V.ref t := by
          rw [List.getElem?_map] at hy
          cases e : ts[j]? with
          | none => rw [e] at hy; cases hy
          | some t => rw [e] at hy; exact ⟨t, rfl, (Option.some.inj hy).symm⟩
        have qH : Ths H ts (S.bk.getD i []) := by
          obtain ⟨ts0, e0, q0⟩ := B.at_ i b e1
          have ee : ts0.map V.ref = ts.map V.ref := by
            have := e0.symm.trans e2H
            exact HO.lst.inj (Option.some.inj this)
          have ee2 : ts0 = ts := map_ref_inj ee
          rw [← ee2]
          exact q0
        obtain ⟨h, eh, ah⟩ := qH.get et
        have at2 := s3 _ _ ah.1
        have lens : us2.length ≤ 10000 := by
          have z1 := L2.len
          rw [List.length_append, List.length_map, rowsFrom_len] at z1
          have z2 : tot (S.bk.take i) + ((S.bk.getD i []).take j).length ≤ tot S.bk := by
            have w1 := rowsFrom_take S.bk 0 i hi'
            have w2 := congrArg List.length w1
            rw [List.length_append, List.length_map, rowsFrom_len, rowsFrom_len] at w2
            have w3 := tot_take S.bk (i + 1)
            rw [List.length_take]
            omega
          omega
        refine ⟨_, rfl, Or.inl ⟨rfl, _, SqL.of er2⟩, _, rfl, _, rfl, t, _, _, _, rfl, rfl, SqL.of at2, atI_nat (j := 0) rfl, _, rfl, t, _, _, _, rfl, rfl, SqL.of at2, atI_nat (j := 1) rfl, _, rfl, t, _, _, _, rfl, rfl, SqL.of at2, atI_nat (j := 2) rfl, (by show 4 ≤ sizeLine; decide), fun u hu => ?_⟩
        have nru : r ≠ u := ne_of_none er2 hu
        have huH : H u = none := s3.free hu
        refine ⟨r, _, _, rfl, rfl, by rw [upd_ne nru]; exact er2, ?_, us2 ++ [u], some (.ref t), rfl, fun c o e => ?_, ?_, ?_, fun c hc => ?_⟩
        · rw [List.length_map]
          exact Nat.lt_of_le_of_lt lens (by decide)
        · rw [upd_ne (ne_of_none e hr), upd_ne (ne_of_none (s3 _ _ e) hu)]
          exact s3 _ _ e
        · rw [upd_same, List.map_append]
          rfl
        · have ej : ((S.bk.getD i []).take (j + 1)).map (fun h => (i, h)) = ((S.bk.getD i []).take j).map (fun h => (i, h)) ++ [(i, h)] := by
            rw [List.take_add_one, eh, List.map_append]
            rfl
          rw [ej, ← List.append_assoc]
          refine Ls.app ⟨?_, ah.2⟩ (L2.mono fun c g z => ⟨?_, z.2⟩)
          · rw [upd_ne nru.symm, upd_same]
            have e0 : (0 : Int) + (i : Int) = (i : Int) := by omega
            rw [e0]
          · have ncr : c ≠ r := ne_of z.1 er2 (by intro y; cases y)
            rw [upd_ne ncr, upd_ne (ne_of_none z.1 hu)]
            exact z.1
        · rcases List.mem_append.mp hc with z | z
          · exact fr2 c z
          · have ec : c = u := by simpa using z
            rw [ec]
            exact huH
      · rintro σ H2 ⟨us2, w2, rfl, s3, er2, L2, fr2⟩
        refine ⟨us2, _, _, rfl, s3, er2, ?_, fr2⟩
        rw [rowsFrom_take _ _ _ hi']
        have z := q2.len
        have e9 : (S.bk.getD i []).take (ts.map V.ref).length = S.bk.getD i [] := List.take_of_length_le (by rw [List.length_map]; omega)
        rw [e9] at L2
        rw [Nat.zero_add]
        exact L2
    · rintro σ H1 ⟨us, v, w, rfl, s2, er, L, fr⟩
      rw [List.take_of_length_le (by omega)] at L
      exact ⟨_, rfl, q r us H1 s2 hr er L fr⟩
theorem sc_l_cell_at : FnScope ["_law_script", "_law_k"] ["_law_script", "_law_k"] (defScope s_l_cell_at) := ⟨rfl, rfl, rfl, by decide +kernel, rfl, by decide +kernel, by decide +kernel⟩
def cellI (ns : List Int) (k : Nat) : Int := ns.getD k 0
def sp_l_cell_at (K : PySem.W.Frag) : Sp := fun vs H Q _ => ∃ (s : Addr) (ns : List Int) (k : Nat), vs = [.ref s, .int k] ∧ SqL K H s (ns.map V.int) ∧ Q (.int (cellI ns k)) H
theorem ok_l_cell_at {P : Program} {w : World} {K : PySem.W.Frag} {mg : Str → Option Value} {base : Heap} {a : Ad} (T : Txt K mg a) : FnOk P w K mg base CX0 1 a.f_l_cell_at a.d_l_cell_at ["_law_script", "_law_k"] (sp_l_cell_at K) := by
  skip
  refine T.F_l_cell_at.ok sc_l_cell_at (fun vs H Q E h => ?_) (fun cdv A outer s H vs Q E hr h => ?_)
  · obtain ⟨_, _, _, rfl, _⟩ := h
    rfl
  · obtain ⟨s, ns, k, rfl, hS, q⟩ := h
    refine ⟨_, (pss_cons (ps_if (pt_cmpR op_lt (pv 1) (pe_callB call_len rfl T.n_len PySem.boot_len (pa_cons (pv 0) pa_nil)) (nomark _)) (pss_one (ps_ret (pe_ix ix_list (pv 0) (pv 1) (fun _ _ => rfl)))) pss_nil)
      (pss_one (ps_ret pe_int))), ?_⟩
    refine ⟨_, rfl, _, rfl, _, _, rfl, Or.inl ⟨_, hS, rfl⟩, _, _, rfl, rfl, _, rfl, ifd (fun c => ?_) (fun c => ?_)⟩
    · rw [List.length_map] at c
      have hk : k < ns.length := by omega
      refine ⟨_, rfl, _, rfl, s, _, _, _, rfl, rfl, hS, atI_nat (j := k) (v := V.int (cellI ns k)) ?_, q⟩
      rw [List.getElem?_map, List.getElem?_eq_getElem hk]
      show some (V.int ns[k]) = some (V.int (ns.getD k 0))
      rw [List.getD_eq_getElem?_getD, List.getElem?_eq_getElem hk]
      rfl
    · rw [List.length_map] at c
      have hk : ns.length ≤ k := by omega
      have e : cellI ns k = 0 := by
        show ns.getD k 0 = 0
        rw [List.getD_eq_getElem?_getD, List.getElem?_eq_none hk]
        rfl
      rw [e] at q
      exact q
theorem sc_l_whole : FnScope ["_law_found"] ["_law_found"] (defScope s_l_whole) := ⟨rfl, rfl, rfl, by decide +kernel, rfl, by decide +kernel, by decide +kernel⟩
def sp_l_whole : Sp := fun vs H Q _ => ∃ i : Int, vs = [.int i] ∧ Q (.bl true) H
theorem ok_l_whole {P : Program} {w : World} {K : PySem.W.Frag} {mg : Str → Option Value} {base : Heap} {a : Ad} (T : Txt K mg a) : FnOk P w K mg base CX0 1 a.f_l_whole a.d_l_whole ["_law_found"] (sp_l_whole) := by
  skip
  refine T.F_l_whole.ok sc_l_whole (fun vs H Q E h => ?_) (fun cdv A outer s H vs Q E hr h => ?_)
  · obtain ⟨_, rfl, _⟩ := h
    rfl
  · obtain ⟨i, rfl, q⟩ := h
    refine ⟨_, (pss_one (ps_ret (pe_and (pe_callB call_isi rfl T.n_isinstance (by decide +kernel) (pa_cons (pv 0) (pa_cons (pe_bltn (v := .ty "int") rfl T.n_int (by decide +kernel) rfl) pa_nil))) (pe_one (pe_not (pe_callB call_isi rfl T.n_isinstance (by decide +kernel) (pa_cons (pv 0) (pa_cons (pe_bltn (v := .ty "bool") rfl T.n_bool (by decide +kernel) rfl) pa_nil)))))))), ?_⟩
    exact ⟨_, rfl, _, _, _, _, true, rfl, .ty "int", .base (.int i), kit_ty (by decide +kernel), true, rfl, iteT ⟨_, rfl, _, _, _, _, false, rfl, .ty "bool", .base (.int i), kit_ty (by decide +kernel), false, rfl, q⟩⟩
theorem sc_l_number_by : FnScope ["_law_cell", "_law_way"] ["_law_cell", "_law_way"] (defScope s_l_number_by) := ⟨rfl, rfl, rfl, by decide +kernel, rfl, by decide +kernel, by decide +kernel⟩
def sp_l_number_by : Sp := fun vs H Q _ => ∃ c w : Int, vs = [.int c, .int w] ∧ ∀ n : Nat, n < 10 ^ 40 → Q (.int n) H
theorem ok_l_number_by {P : Program} {w : World} {K : PySem.W.Frag} {mg : Str → Option Value} {base : Heap} {a : Ad} (T : Txt K mg a) : FnOk P w K mg base CX0 1 a.f_l_number_by a.d_l_number_by ["_law_cell", "_law_way"] (sp_l_number_by) := by
  skip
  refine T.F_l_number_by.ok sc_l_number_by (fun vs H Q E h => ?_) (fun cdv A outer s H vs Q E hr h => ?_)
  · obtain ⟨_, _, rfl, _⟩ := h
    rfl
  · obtain ⟨c, w, rfl, q⟩ := h
    refine ⟨_, (pss_cons (ps_if (pt_cmpR op_eq (pe_op op_mod (pv 1) pe_int) pe_int (nomark _)) (pss_one (ps_ret (pe_op op_mod (pv 0) pe_int))) pss_nil)
      (pss_cons (ps_if (pt_cmpR op_eq (pe_op op_mod (pv 1) pe_int) pe_int (nomark _)) (pss_one (ps_ret (pe_op op_mod (pv 0) pe_int))) pss_nil)
      (pss_one (ps_ret (pe_op op_mod (pv 0) (pe_op op_pow pe_int pe_int)))))), ?_⟩
    have qq : ∀ (m : Int), 0 < m → m ≤ 10 ^ 40 → Q (.int (c % m)) H := fun m h1 h2 => by
      obtain ⟨n, en, hn⟩ := modn c (m := m) h1
      rw [en]
      exact q n (Int.ofNat_lt.mp (by rw [Int.natCast_pow]; exact Int.lt_of_lt_of_le hn h2))
    refine ⟨_, rfl, _, _, rfl, rfl, (by show (0 : Int) < 3; decide), rfl, _, rfl, ifi (fun _ => ?_) (fun _ => ?_)⟩
    · exact ⟨_, rfl, _, _, rfl, rfl, (by show (0 : Int) < 10; decide), qq _ (by decide) (by decide +kernel)⟩
    refine ⟨_, rfl, _, _, rfl, rfl, (by show (0 : Int) < 3; decide), rfl, _, rfl, ifi (fun _ => ?_) (fun _ => ?_)⟩
    · exact ⟨_, rfl, _, _, rfl, rfl, (by show (0 : Int) < 1000; decide), qq _ (by decide) (by decide +kernel)⟩
    exact ⟨_, rfl, _, _, rfl, rfl, cpow 12, _, _, rfl, rfl, (by show (0 : Int) < 10 ^ 12; decide +kernel), qq _ (by decide +kernel) (by decide +kernel)⟩
theorem sc_l_first : FnScope ["_law_things", "_law_at", "_law_k"] ["_law_things"] (defScope s_l_first) := ⟨rfl, rfl, rfl, by decide +kernel, rfl, by decide +kernel, by decide +kernel⟩
def sp_l_first (K : PySem.W.Frag) : Sp := fun vs H Q _ => ∃ (r : Addr) (us : List Addr) (L : List (Nat × Str)), vs = [.ref r] ∧ H r = some (.lst (us.map V.ref)) ∧ Ls (PairAt H) us L ∧ L ≠ [] ∧ L.length ≤ 1000 ∧ ∀ k q, FirstAt L k q → Q (.int k) H
theorem ok_l_first {P : Program} {w : World} {K : PySem.W.Frag} {mg : Str → Option Value} {base : Heap} {a : Ad} (T : Txt K mg a) : FnOk P w K mg base CX0 1 a.f_l_first a.d_l_first ["_law_things"] (sp_l_first K) := by
  skip
  refine T.F_l_first.ok sc_l_first (fun vs H Q E h => ?_) (fun cdv A outer s H vs Q E hr h => ?_)
  · obtain ⟨_, _, _, rfl, _⟩ := h
    rfl
  · obtain ⟨r, us, L, rfl, er, LL, ne, ll, q⟩ := h
    refine ⟨_, (pss_cons (ps_set (i := 1) sc_l_first.nd rfl (Or.inl rfl) pe_int)
      (pss_cons (ps_for PassesOwn.never rfl (pi_range1 rfl T.n_range (pa_cons (pe_callB call_len rfl T.n_len PySem.boot_len (pa_cons (pv 0) pa_nil)) pa_nil)) (pg_name (i := 2) sc_l_first.nd rfl (Or.inl rfl)) (pss_one (ps_if (pt_cmpR op_lt (pe_ix ix_tup (pe_ix ix_list (pv 0) (pv 2) (fun _ _ => rfl)) pe_int (fun _ _ => rfl)) (pe_ix ix_tup (pe_ix ix_list (pv 0) (pv 1) (fun _ _ => rfl)) pe_int (fun _ _ => rfl)) (nomark _)) (pss_one (ps_set (i := 1) sc_l_first.nd rfl (Or.inl rfl) (pv 2))) pss_nil)))
      (pss_one (ps_ret (pv 1))))), ?_⟩
    have lu : us.length = L.length := LL.len
    have lp : 0 < L.length := List.length_pos_iff.mpr ne
    refine ⟨_, rfl, _, _, rfl, Or.inl ⟨_, SqL.of er, rfl⟩, _, rfl, by omega, by rw [List.length_map]; omega, ?_⟩
    refine for_range (lo := 0) (n := (((us.map V.ref).length : Nat) : Int).toNat) (fun i σ H1 => H1 = H ∧ ∃ (k : Nat) (w : Option V) (g : Nat × Str), σ = [some (.ref r), some (.int k), w] ∧ L[k]? = some g ∧ ∀ j c, L[j]? = some c → (j < i → g.1 ≤ c.1) ∧ (j < k → g.1 < c.1)) ?_ ?_ ?_
    · refine ⟨rfl, 0, none, L[0], rfl, List.getElem?_eq_getElem lp, fun j c _ => ⟨fun z => by omega, fun z => by omega⟩⟩
    · rintro i σ H1 hi ⟨rfl, k, w, g, rfl, eg, h⟩
      have hi2 : i < L.length := by
        rw [List.length_map] at hi
        omega
      obtain ⟨t, et, at_⟩ := LL.getR eg
      obtain ⟨u, eu, au⟩ := LL.getR (List.getElem?_eq_getElem hi2)
      have a1 : atI (us.map V.ref) (0 + (i : Int)) = some (V.ref u) := at_of (j := i) (by omega) (by rw [List.getElem?_map, eu]; rfl)
      have a2 : atI (us.map V.ref) (k : Int) = some (V.ref t) := at_of (j := k) rfl (by rw [List.getElem?_map, et]; rfl)
      refine ⟨_, rfl, _, rfl, r, _, _, _, rfl, rfl, SqL.of er, a1, u, _, _, _, rfl, rfl, SqT.of au.1, atI_nat (j := 0) rfl, _, rfl, _, rfl, r, _, _, _, rfl, rfl, SqL.of er, a2, t, _, _, _, rfl, rfl, SqT.of at_.1, atI_nat (j := 0) rfl, _, _, rfl, rfl, _, rfl, ifd (fun c => ?_) (fun c => ?_)⟩
      · refine ⟨_, rfl, rfl, i, some (.int (0 + (i : Int))), L[i], ?_, List.getElem?_eq_getElem hi2, fun j c' ec => ?_⟩
        · show [some (V.ref r), some (V.int (0 + (i : Int))), some (V.int (0 + (i : Int)))] = _
          rw [show (0 : Int) + (i : Int) = i by omega]
        · obtain ⟨h1, h2⟩ := h j c' ec
          refine ⟨fun z => ?_, fun z => ?_⟩
          · rcases Nat.lt_or_ge j i with y | y
            · have := h1 y
              omega
            · have e : j = i := by omega
              subst e
              have e2 : L[j] = c' := Option.some.inj ((List.getElem?_eq_getElem hi2).symm.trans ec)
              rw [e2]
              exact Nat.le_refl _
          · have := h1 z
            omega
      · refine ⟨rfl, k, some (.int (0 + (i : Int))), g, rfl, eg, fun j c' ec => ?_⟩
        obtain ⟨h1, h2⟩ := h j c' ec
        refine ⟨fun z => ?_, h2⟩
        rcases Nat.lt_or_ge j i with y | y
        · exact h1 y
        · have e : j = i := by omega
          subst e
          have e2 : L[j] = c' := Option.some.inj ((List.getElem?_eq_getElem hi2).symm.trans ec)
          rw [← e2]
          omega
    · rintro σ H1 ⟨rfl, k, w, g, rfl, eg, h⟩
      refine ⟨_, rfl, q k g ⟨eg, fun j c ec => ?_⟩⟩
      obtain ⟨h1, h2⟩ := h j c ec
      have hj : j < L.length := (List.getElem?_eq_some_iff.mp ec).1
      exact ⟨h1 (by rw [List.length_map]; omega), h2⟩
theorem sc_l_words : FnScope ["_law_e", "_law_some", "_law_found", "_law_word", "_law_fits"] ["_law_e"] (defScope s_l_words) := ⟨rfl, rfl, rfl, by decide +kernel, rfl, by decide +kernel, by decide +kernel⟩
def sp_l_words (K : PySem.W.Frag) (ad : Ad) : SpP := fun a cls d vs H Q _ => ∃ b1 b2 b3 b4 : Bool, Kind K ad cls d b1 b2 b3 b4 ∧ wordOf b1 b2 b3 b4 ≠ [] ∧ vs = [.ref a] ∧ ∀ (l : Addr) (H' : Hp), Same H H' → H l = none → H' l = some (.lst ((wordOf b1 b2 b3 b4).map V.str)) → Q (.ref l) H'
def fits (W : List (Str × Bool)) (i : Nat) : List Str := ((W.take i).filter (·.2)).map (·.1)
def FitAt (H : Hp) (t : Addr) (r : Str × Bool) : Prop := H t = some (.tup [.str r.1, .bl r.2])
theorem ok_l_words {P : Program} {w : World} {K : PySem.W.Frag} {mg : Str → Option Value} {base : Heap} {a : Ad} (T : Txt K mg a) : FnP P w K mg base CX0 1 a.f_l_words a.d_l_words ["_law_e"] (sp_l_words K a) := by
  skip
  refine okP T.F_l_words sc_l_words (fun a0 cls d vs H Q E h => ?_) (fun cdv A outer s H vs Q E p cls d hot hz hr h => ?_)
  · obtain ⟨_, _, _, _, _, _, rfl, _⟩ := h
    rfl
  · obtain ⟨b1, b2, b3, b4, ⟨D, ec, ed, EC, k1, k2, k3, k4, k5⟩, ne, rfl, q⟩ := h
    refine ⟨_, (pss_cons (ps_set (i := 1) sc_l_words.nd rfl (Or.inl rfl) (pe_lst (pa_cons (pe_tup (pa_cons pe_str (pa_cons (pe_callB (call_isK (K := K) rfl (p := p) List.mem_cons_self hz (hot_f hot)) rfl T.n_isinstance (by decide +kernel) (pa_cons (pv 0) (pa_cons (pe_glob (v := .ref a.C_NoBase) rfl T.g_NoBase rfl) pa_nil))) pa_nil))) (pa_cons (pe_tup (pa_cons pe_str (pa_cons (pe_callB (call_isK (K := K) rfl (p := p) List.mem_cons_self hz (hot_f hot)) rfl T.n_isinstance (by decide +kernel) (pa_cons (pv 0) (pa_cons (pe_glob (v := .ref a.C_NoNumber) rfl T.g_NoNumber rfl) pa_nil))) pa_nil))) (pa_cons (pe_tup (pa_cons pe_str (pa_cons (pe_callB (call_isK (K := K) rfl (p := p) List.mem_cons_self hz (hot_f hot)) rfl T.n_isinstance (by decide +kernel) (pa_cons (pv 0) (pa_cons (pe_glob (v := .ref a.C_Late) rfl T.g_Late rfl) pa_nil))) pa_nil))) pa_nil)))))
      (pss_cons (ps_expr (pe_bm PySem.F.plainAttrs_list PySem.F.slot_list_append PySem.F.type_list_append mt_append (pv 1) (pa_cons (pe_tup (pa_cons pe_str (pa_cons (pe_callB (call_isK (K := K) rfl (p := p) List.mem_cons_self hz (hot_f hot)) rfl T.n_isinstance (by decide +kernel) (pa_cons (pv 0) (pa_cons (pe_glob (v := .ref a.C_Bare) rfl T.g_Bare rfl) pa_nil))) pa_nil))) pa_nil)))
      (pss_cons (ps_setLcH (i := 2) (own := [("_law_word", 3), ("_law_fits", 4)]) (p := p) hot List.mem_cons_self sc_l_words.nd rfl rfl (sw_true rfl rfl rfl (by decide +kernel)) (pi_listH (pv 1)) (blkOk_by (N := ["_law_e", "_law_some", "_law_found", "_law_word", "_law_fits"]) (sc := defScope s_l_words) (by decide +kernel)) (fun _ _ _ _ _ => (pg_tupK (K := K) (n := 2) rfl ⟨p, hot, List.mem_cons_self⟩ (pgs_cons (pg_name (i := 3) sc_l_words.nd rfl (Or.inl rfl)) (pgs_cons (pg_name (i := 4) sc_l_words.nd rfl (Or.inl rfl)) pgs_nil)))) (fun _ _ _ _ _ => pts_one (PW.pt (pw_and (pt_val (pv 4)) (pw_and1 (pt_val (pe_callB (call_isK (K := K) rfl (p := p) List.mem_cons_self hz (hot_f hot)) rfl T.n_isinstance (by decide +kernel) (pa_cons (pv 0) (pa_cons (pe_bltn (v := .ty "ValueError") rfl T.n_ValueError (by decide +kernel) rfl) pa_nil)))))))) (fun _ _ _ _ _ => (pv 3)))
      (pss_cons (ps_if (pt_cmpR (op_eqD (huH hr)) (pv 2) (pe_lst pa_nil) (nomark _)) (pss_one (ps_ret (pe_lst (pa_cons pe_str pa_nil)))) pss_nil)
      (pss_one (ps_ret (pv 2))))))), ?_⟩
    have two : 2 ≤ sizeLine := by decide
    refine ⟨_, rfl, D, ec, ed, EC, _, _, b1, rfl, fun u r => r, k1, two, fun t1 h1 => ⟨_, rfl, D, ec, ed, EC, _, _, b2, rfl, fun u r => r, k2, two, fun t2 h2 => ⟨_, rfl, D, ec, ed, EC, _, _, b3, rfl, fun u r => r, k3, two, fun t3 h3 => ⟨(by show 3 ≤ sizeLine; decide), fun l hl => ?_⟩⟩⟩⟩
    have s1 : Same H (upd H t1 (.tup [.str (Str.ofString "base"), .bl b1])) := same_upd1 h1
    have e1 : (upd H t1 (.tup [.str (Str.ofString "base"), .bl b1])) t1 = some (.tup [.str (Str.ofString "base"), .bl b1]) := upd_same
    generalize upd H t1 (.tup [.str (Str.ofString "base"), .bl b1]) = H1 at s1 e1 h2 h3 hl ⊢
    have s2 : Same H1 (upd H1 t2 (.tup [.str (Str.ofString "number"), .bl b2])) := same_upd1 h2
    have e2 : (upd H1 t2 (.tup [.str (Str.ofString "number"), .bl b2])) t2 = some (.tup [.str (Str.ofString "number"), .bl b2]) := upd_same
    generalize upd H1 t2 (.tup [.str (Str.ofString "number"), .bl b2]) = H2 at s2 e2 h3 hl ⊢
    have s3 : Same H2 (upd H2 t3 (.tup [.str (Str.ofString "late"), .bl b3])) := same_upd1 h3
    have e3 : (upd H2 t3 (.tup [.str (Str.ofString "late"), .bl b3])) t3 = some (.tup [.str (Str.ofString "late"), .bl b3]) := upd_same
    generalize upd H2 t3 (.tup [.str (Str.ofString "late"), .bl b3]) = H3 at s3 e3 hl ⊢
    have s4 : Same H3 (upd H3 l (.lst [.ref t1, .ref t2, .ref t3])) := same_upd1 hl
    have e4 : (upd H3 l (.lst [.ref t1, .ref t2, .ref t3])) l = some (.lst [.ref t1, .ref t2, .ref t3]) := upd_same
    generalize upd H3 l (.lst [.ref t1, .ref t2, .ref t3]) = H4 at s4 e4 ⊢
    refine ⟨_, rfl, Or.inl ⟨rfl, _, SqL.of e4⟩, _, rfl, D, ec, ed, EC, _, _, b4, rfl, fun u r => r, k4, two, fun t4 h4 => ?_⟩
    have nlt : l ≠ t4 := ne_of_none e4 h4
    refine ⟨l, _, _, rfl, rfl, by rw [upd_ne nlt]; exact e4, (by show 3 < sizeLine; decide), ?_⟩
    have hlH : H l = none := (s1.trans (s2.trans s3)).free hl
    have s6 : Same H (upd (upd H4 t4 (.tup [.str (Str.ofString "bare"), .bl b4])) l (.lst ([.ref t1, .ref t2, .ref t3] ++ [.ref t4]))) := fun c o e => by
      rw [upd_ne (ne_of_none e hlH), upd_ne (ne_of_none ((s1.trans (s2.trans (s3.trans s4))) _ _ e) h4)]
      exact (s1.trans (s2.trans (s3.trans s4))) _ _ e
    have e6 : (upd (upd H4 t4 (.tup [.str (Str.ofString "bare"), .bl b4])) l (.lst ([.ref t1, .ref t2, .ref t3] ++ [.ref t4]))) l = some (.lst ([t1, t2, t3, t4].map V.ref)) := upd_same
    have kt : ∀ (t : Addr) (xs : List V), H4 t = some (.tup xs) → (upd (upd H4 t4 (.tup [.str (Str.ofString "bare"), .bl b4])) l (.lst ([.ref t1, .ref t2, .ref t3] ++ [.ref t4]))) t = some (.tup xs) := fun t xs e => by
      rw [upd_ne (ne_of e e4 (by intro y; cases y)), upd_ne (ne_of_none e h4)]
      exact e
    have R6 : Ls (FitAt (upd (upd H4 t4 (.tup [.str (Str.ofString "bare"), .bl b4])) l (.lst ([.ref t1, .ref t2, .ref t3] ++ [.ref t4])))) [t1, t2, t3, t4] [(Str.ofString "base", b1), (Str.ofString "number", b2), (Str.ofString "late", b3), (Str.ofString "bare", b4)] :=
      ⟨kt _ _ (s4 _ _ (s3 _ _ (s2 _ _ e1))), kt _ _ (s4 _ _ (s3 _ _ e2)), kt _ _ (s4 _ _ e3), by show upd _ l _ t4 = _; rw [upd_ne nlt.symm, upd_same], trivial⟩
    generalize (upd (upd H4 t4 (.tup [.str (Str.ofString "bare"), .bl b4])) l (.lst ([.ref t1, .ref t2, .ref t3] ++ [.ref t4]))) = H6 at s6 e6 R6 ⊢
    have W4 : fits [(Str.ofString "base", b1), (Str.ofString "number", b2), (Str.ofString "late", b3), (Str.ofString "bare", b4)] 4 = wordOf b1 b2 b3 b4 := by
      cases b1 <;> cases b2 <;> cases b3 <;> cases b4 <;> rfl
    generalize [(Str.ofString "base", b1), (Str.ofString "number", b2), (Str.ofString "late", b3), (Str.ofString "bare", b4)] = W at R6 W4
    refine ⟨_, rfl, l, rfl, ⟨_, SqL.of e6⟩, fun c hc => ?_⟩
    have nlc : l ≠ c := ne_of_none e6 hc
    refine lc_list (K := K) (a := l) (xs := [t1, t2, t3, t4].map V.ref) (fun i H' => H' = upd H6 c (.lst ((fits W i).map V.str))) rfl (fun i H' _ e => by rw [e]; exact SqL.of (by rw [upd_ne nlc]; exact e6)) ?_ ?_
    · rintro i y H' hy rfl
      obtain ⟨u, eu, rfl⟩ := get_refs hy
      obtain ⟨⟨w, b⟩, eg, ag⟩ := R6.get eu
      have hi : i < 4 := (List.getElem?_eq_some_iff.mp eu).1
      have ag' : (upd H6 c (.lst ((fits W i).map V.str))) u = some (.tup [.str w, .bl b]) := by
        rw [upd_ne (ne_of_none ag hc)]
        exact ag
      have nxt : fits W (i + 1) = fits W i ++ if b = true then [w] else [] := by
        unfold fits
        rw [List.take_add_one, eg, List.filter_append, List.map_append]
        cases b <;> rfl
      have lf : ((fits W i).map V.str).length < sizeLine := by
        rw [List.length_map]
        unfold fits
        rw [List.length_map]
        refine Nat.lt_of_le_of_lt (List.length_filter_le _ _) ?_
        rw [List.length_take]
        exact Nat.lt_of_le_of_lt (Nat.min_le_left _ _) (Nat.lt_of_lt_of_le (show i < 4 from hi) (by decide))
      refine ⟨u, [.str w, .bl b], rfl, SqT.of ag', rfl, _, _, rfl, _, _, rfl, rfl, rfl, ?_⟩
      refine ⟨_, rfl, b, rfl, ?_⟩
      cases b with
      | true =>
        refine iteT ⟨_, rfl, D, ec, ed, EC, _, _, true, rfl, fun u r => r, k5, true, rfl, iteT ⟨_, rfl, _, upd_same, lf, ?_⟩⟩
        rw [nxt, upd_upd, if_pos rfl, List.map_append]
        rfl
      | false =>
        refine iteF (iteF ?_)
        rw [nxt, if_neg (by decide), List.append_nil]
    · rintro H' rfl
      have e7 : (upd H6 c (.lst ((fits W 4).map V.str))) c = some (.lst ((wordOf b1 b2 b3 b4).map V.str)) := by rw [upd_same, W4]
      have s7 : Same H (upd H6 c (.lst ((fits W 4).map V.str))) := s6.trans (same_upd1 hc)
      show gName 2 (.ref c) _ (upd H6 c (.lst ((fits W 4).map V.str))) _
      generalize upd H6 c (.lst ((fits W 4).map V.str)) = H7 at s7 e7 ⊢
      refine ⟨_, rfl, Nat.zero_le _, fun e he => ?_⟩
      have s8 : Same H7 (upd H7 e (.lst [])) := same_upd1 he
      have dp : ∀ {H : Hp} (ws : List Str), DpAll K H (ws.map V.str) (ws.map PyData.str) := fun {H} ws => by
        induction ws with
        | nil => exact .nil
        | cons x r ih => exact .cons (.str _) ih
      have sh : SeqAt.shaped (.list ((wordOf b1 b2 b3 b4).map PyData.str)) = true := by
        cases b1 <;> cases b2 <;> cases b3 <;> cases b4 <;> decide +kernel
      have ev : PyData.eqv (.list ((wordOf b1 b2 b3 b4).map PyData.str)) (.list []) = false := by
        cases z : wordOf b1 b2 b3 b4 with
        | nil => exact absurd z ne
        | cons x r => simp [PyData.eqv, PyData.eqvAll]
      refine ⟨.list ((wordOf b1 b2 b3 b4).map PyData.str), .list [], .lst (SqL.of (s8 _ _ e7)) (dp _), .lst (SqL.of upd_same) .nil, sh, by decide +kernel, _, rfl, ?_⟩
      rw [ev]
      exact iteF ⟨_, rfl, q c _ (s7.trans s8) (s6.free hc) (s8 _ _ e7)⟩
theorem sc_l_bare : FnScope ["_law_store", "_law_refused", "_law_e"] ["_law_store"] (defScope s_l_bare) := ⟨rfl, rfl, rfl, by decide +kernel, rfl, by decide +kernel, by decide +kernel⟩
def sp_l_bare (a : Ad) : Sp := fun vs H Q _ => ∃ (p bl : Addr) (bs : List Addr) (S : Sto Str), vs = [.ref p] ∧ StoreAt a.C_Store H p bl bs S ∧ S.Ok ∧ S.many = 0 ∧ ∀ H', Same H H' → Q (.bl true) H'
theorem ok_l_bare {P : Program} {w : World} {K : PySem.W.Frag} {mg : Str → Option Value} {base : Heap} {a : Ad} (T : Txt K mg a) : FnOk P w K mg base CX0 3 a.f_l_bare a.d_l_bare ["_law_store"] (sp_l_bare a) := by
  have G_Store_least := @ok_Store_least P w K mg base a T
  have G_l_words := @ok_l_words P w K mg base a T
  refine T.F_l_bare.ok sc_l_bare (fun vs H Q E h => ?_) (fun cdv A outer s H vs Q E hr h => ?_)
  · obtain ⟨_, _, _, _, rfl, _⟩ := h
    rfl
  · obtain ⟨p, bl, bs, S, rfl, A0, O, m0, q⟩ := h
    refine ⟨_, (pss_cons (ps_set (i := 1) sc_l_bare.nd rfl (Or.inl rfl) pe_int)
      (C8.pss_cut (L2N.ps_try_many rfl rfl takes0 (fun W0 pn0 xe0 tk0 _ => (pss_one (ps_expr (pe_meth0W (pv 0) T.cl_Store T.M_Store_least G_Store_least (hr.mono (by decide)) T.b_Store_least (fun σ => L2N.passAt tk0 σ))))) (.cons ⟨rfl, by decide, Or.inl T.g_Bare⟩ (fun a0 oe0 cls0 d0 pn0 hz0 hf0 => (pss_one (ps_set (i := 1) sc_l_bare.nd rfl (Or.inl rfl) (pe_op op_add (pv 1) pe_int)))) .nil))
      (C8.pss_cut (L2N.ps_try_as (i := 2) rfl rfl sc_l_bare.nd rfl rfl ⟨rfl, by decide, Or.inl T.g_FallError⟩ takes0 (fun W0 pn0 xe0 tk0 _ => (pss_one (ps_expr (pe_meth0W (pv 0) T.cl_Store T.M_Store_least G_Store_least (hr.mono (by decide)) T.b_Store_least (fun σ => L2N.passAt tk0 σ))))) (fun a0 oe0 cls0 d0 pn0 hz0 hf0 => (pss_one (ps_set (i := 1) sc_l_bare.nd rfl (Or.inl rfl) (pe_op op_add (pv 1) (pe_callTy call_int1 rfl T.n_int (by decide +kernel) (pa_cons (pe_cmpR (op_eqK (K := K) rfl hr.units) (pe_callA (a := a0) (oe := oe0) G_l_words (roomH_mark (hr.mono (by decide))) (hot_of hz0 hf0) List.mem_cons_self hz0.zc rfl T.m_l_words T.F_l_words.kp T.b_l_words (fun σ => pass0At σ) (pa_cons (pv 2) pa_nil)) (pe_lst (pa_cons pe_str pa_nil)) (nomark _)) pa_nil)))))))
      (pss_one (ps_ret (pe_cmpR op_eq (pv 1) pe_int (nomark _))))))), ?_⟩
    obtain ⟨dx, ob⟩ := A0.ob
    refine ⟨fun σ' H' => σ' = [some (.ref p), some (.int 1), none] ∧ H' = H, ?_, ?_⟩
    · refine ⟨_, rfl, p, dx, _, rfl, ob, sf_m_least _ _ _ _ _, p, bl, bs, S, rfl, A0, O, fun _ => ?_, fun z => by omega⟩
      exact ⟨true, exo_Bare T, fun _ e0 he0 => ⟨_, rfl, _, _, rfl, rfl, rfl, rfl⟩, fun y => by cases y⟩
    rintro σ2 H2 ⟨rfl, rfl⟩
    refine ⟨fun σ' H' => σ' = [some (.ref p), some (.int 2), none] ∧ Same H2 H', ?_, ?_⟩
    · refine ⟨_, rfl, p, dx, _, rfl, ob, sf_m_least _ _ _ _ _, p, bl, bs, S, rfl, A0, O, fun _ => ?_, fun z => by omega⟩
      refine ⟨true, exf_Bare T, fun _ e0 he0 => ?_, fun y => by cases y⟩
      refine ⟨_, rfl, _, rfl, false, false, false, true, kind_Bare T, by decide +kernel, rfl, fun r H3 s3 fl el => ?_⟩
      refine ⟨(by show 1 ≤ sizeLine; decide), fun e he => ?_⟩
      have s4 : Same H3 (upd H3 e (.lst [.str (Str.ofString "bare")])) := same_upd1 he
      have d : ∀ {H' : Hp} {p : Addr}, H' p = some (.lst [.str (Str.ofString "bare")]) → Dp K H' (.ref p) (.list [.str (Str.ofString "bare")]) := fun e => .lst (SqL.of e) (.cons (.str _) .nil)
      refine ⟨_, _, d (s4 _ _ el), d upd_same, by decide +kernel, by decide +kernel, Or.inr ⟨_, rfl, ?_⟩⟩
      rw [show PyData.eqv (.list [.str (Str.ofString "bare")]) (.list [.str (Str.ofString "bare")]) = true by decide +kernel]
      exact ⟨_, _, rfl, rfl, rfl, s3.trans s4⟩
    rintro σ3 H3 ⟨rfl, s3⟩
    refine ⟨_, rfl, rfl, ?_⟩
    rw [decide_eq_true rfl]
    exact q _ s3
theorem sc_l_told : FnScope ["_law_store", "_law_number", "_law_name", "_law_told_here"] ["_law_store", "_law_number", "_law_name"] (defScope s_l_told) := ⟨rfl, rfl, rfl, by decide +kernel, rfl, by decide +kernel, by decide +kernel⟩
def sp_l_told (a : Ad) : Sp := fun vs H Q _ => ∃ (p bl : Addr) (bs : List Addr) (S : Sto Str) (b : Nat) (L A' B : List (Nat × Str)) (g : Nat × Str), vs = [.ref p, .int g.1, .str g.2] ∧ NameOk g.2 ∧ Led a.C_Store H p bl bs S b L ∧ Split L A' g B ∧ ∀ H', Same H H' → Q (.bl true) H'
theorem ok_l_told {P : Program} {w : World} {K : PySem.W.Frag} {mg : Str → Option Value} {base : Heap} {a : Ad} (T : Txt K mg a) : FnOk P w K mg base CX0 3 a.f_l_told a.d_l_told ["_law_store", "_law_number", "_law_name"] (sp_l_told a) := by
  have G_Store_least := @ok_Store_least P w K mg base a T
  have G_l_whole := @ok_l_whole P w K mg base a T
  refine T.F_l_told.ok sc_l_told (fun vs H Q E h => ?_) (fun cdv A outer s H vs Q E hr h => ?_)
  · obtain ⟨_, _, _, _, _, _, _, _, _, rfl, _⟩ := h
    rfl
  · obtain ⟨p, bl, bs, S, b, L, A', B, g, rfl, hx, A1, sp, q⟩ := h
    refine ⟨_, (pss_cons (ps_set (i := 3) sc_l_told.nd rfl (Or.inl rfl) (pe_meth0 (pv 0) T.cl_Store T.M_Store_least G_Store_least (hr.mono (by decide)) T.b_Store_least .nil passN))
      (pss_cons (ps_if (PW.pt (pw_or (pt_not (pt_val (pe_callB call_isi rfl T.n_isinstance (by decide +kernel) (pa_cons (pv 3) (pa_cons (pe_bltn (v := .ty "tuple") rfl T.n_tuple (by decide +kernel) rfl) pa_nil))))) (pw_or1 (pt_cmpR op_ne (pe_callB call_len rfl T.n_len PySem.boot_len (pa_cons (pv 3) pa_nil)) pe_int (nomark _))))) (pss_one (ps_ret pe_bl)) pss_nil)
      (pss_cons (ps_if (PW.pt (pw_or (pt_not (pt_val (pe_call G_l_whole (hr.mono (by decide)) rfl T.m_l_whole T.F_l_whole.kp T.b_l_whole .nil pass0 (pa_cons (pe_ix ix_tup (pv 3) pe_int (fun _ _ => rfl)) pa_nil)))) (pw_or1 (pt_not (pt_val (pe_callB call_isi rfl T.n_isinstance (by decide +kernel) (pa_cons (pe_ix ix_tup (pv 3) pe_int (fun _ _ => rfl)) (pa_cons (pe_bltn (v := .ty "str") rfl T.n_str (by decide +kernel) rfl) pa_nil)))))))) (pss_one (ps_ret pe_bl)) pss_nil)
      (pss_one (ps_ret (pe_cmpR (op_eqD hr.units) (pv 3) (pe_tup (pa_cons (pv 1) (pa_cons (pv 2) pa_nil))) (nomark _))))))), ?_⟩
    obtain ⟨dx, ob⟩ := A1.st.ob
    have many : S.many = L.length := A1.holds.many
    have lp : 0 < L.length := by rw [sp.len]; omega
    refine ⟨_, rfl, p, dx, _, rfl, ob, sf_m_least _ _ _ _ _, p, bl, bs, S, rfl, A1.st, A1.ok, fun z => by omega, fun _ h r u H1 eh s1 eu hx1 => ?_⟩
    have eg : two (first h r) = g := least_two A1.ok A1.holds sp eh
    have en : (first h r).n = g.1 := congrArg Prod.fst eg
    have ex : (first h r).x = g.2 := congrArg Prod.snd eg
    rw [en, ex] at eu
    dsimp only [tNext, gName, tSeq, tIfS]
    refine or_det (ka := false) (kb := false) ?A ?B _ ?C
    case A =>
      intro Q q
      exact ⟨_, rfl, _, _, _, _, true, rfl, .ty "tuple", .base (.tup eu), kit_ty (by decide +kernel), true, rfl, q⟩
    case B =>
      intro _ Q q
      refine ⟨_, rfl, _, _, rfl, Or.inr ⟨_, SqT.of eu, rfl⟩, rfl, _, rfl, ?_⟩
      have e4 : (!decide (V.int ((2 : Nat) : Int) = V.int 2)) = false := by decide
      rw [← e4] at q
      exact q
    refine iteF ?_
    refine or_det (ka := false) (kb := false) ?A2 ?B2 _ ?C2
    case A2 =>
      intro Q q
      exact ⟨_, rfl, u, _, _, _, rfl, rfl, SqT.of eu, atI_nat (j := 0) rfl, _, rfl, true, rfl, q⟩
    case B2 =>
      intro _ Q q
      exact ⟨_, rfl, u, _, _, _, rfl, rfl, SqT.of eu, atI_nat (j := 1) rfl, _, _, _, _, true, rfl, .ty "str", .base (.str _), kit_ty (by decide +kernel), true, rfl, q⟩
    refine iteF ?_
    refine ⟨_, rfl, _, rfl, _, rfl, (by show 2 ≤ sizeLine; decide), fun y hy => ?_⟩
    have s2 : Same H1 (upd H1 y (.tup [.int g.1, .str g.2])) := same_upd1 hy
    have au : PairAt (upd H1 y (.tup [.int g.1, .str g.2])) u g := ⟨s2 _ _ eu, hx⟩
    have ay : PairAt (upd H1 y (.tup [.int g.1, .str g.2])) y g := ⟨upd_same, hx⟩
    refine ⟨prD g, prD g, pr_dp au, pr_dp ay, pr_shaped hx, pr_shaped hx, ?_⟩
    rw [pr_eqv]
    exact q _ (s1.trans s2)
theorem sc_law : FnScope ["_law_script", "_law_store", "_law_things", "_law_gone", "_law_last", "_law_k", "_law_number", "_law_at", "_law_before", "_law_due", "_law_far"] ["_law_script"] (defScope s_law) := ⟨rfl, rfl, rfl, by decide +kernel, rfl, by decide +kernel, by decide +kernel⟩
theorem bigT {i : Nat} (h : i ≤ 63) : i * 10 ^ 40 < 2 ^ 900 := Nat.lt_of_le_of_lt (Nat.mul_le_mul_right _ h) (by decide +kernel)
def nm (n : Nat) : Str := Str.ofString (toString (n : Int)) ++ Str.ofString "'"
theorem str_ok {n : Nat} (h : n < 64) : NameOk (nm n) := by
  have : ∀ k : Fin 64, (nm k.val).length ≤ 1000 ∧ PyData.strOk (nm k.val) = true := by decide +kernel
  exact this ⟨n, h⟩
theorem cat_ok {n : Nat} (h : n < 64) : (Str.ofString (toString (n : Int))).length + (Str.ofString "'").length ≤ sizeLine := by
  have : ∀ k : Fin 64, (Str.ofString (toString ((k.val : Nat) : Int))).length + (Str.ofString "'").length ≤ sizeLine := by decide +kernel
  exact this ⟨n, h⟩
theorem log_ok {n : Nat} (h : n < 64) : (n : Int).natAbs.log2 < 1920 := by
  have : ∀ k : Fin 64, ((k.val : Nat) : Int).natAbs.log2 < 1920 := by decide +kernel
  exact this ⟨n, h⟩
theorem ok_law {P : Program} {w : World} {K : PySem.W.Frag} {mg : Str → Option Value} {base : Heap} {a : Ad} (T : Txt K mg a) : FnOk P w K mg base CX0 5 a.f_law a.d_law ["_law_script"] (sp_law K) := by
  have G_Store_init := @ok_Store_init P w K mg base a T
  have G_Store_put := @ok_Store_put P w K mg base a T
  have G_l_first := @ok_l_first P w K mg base a T
  have G_l_told := @ok_l_told P w K mg base a T
  have G_l_cell_at := @ok_l_cell_at P w K mg base a T
  have G_l_number_by := @ok_l_number_by P w K mg base a T
  have G_Store_take := @ok_Store_take P w K mg base a T
  have G_Store_rows := @ok_Store_rows P w K mg base a T
  have G_l_bare := @ok_l_bare P w K mg base a T
  refine T.F_law.ok sc_law (fun vs H Q E h => ?_) (fun cdv A outer s H vs Q E hr h => ?_)
  · obtain ⟨_, _, rfl, _⟩ := h
    rfl
  · obtain ⟨x, ns, rfl, hS, hlen, q⟩ := h
    refine ⟨_, (pss_cons (ps_set (i := 1) sc_law.nd rfl (Or.inl rfl) (pe_make T.M_Store G_Store_init (hr.mono (by decide)) rfl T.g_Store T.b_Store_init .nil passN (pa_cons (pe_op op_add pe_int (pe_op op_mod (pe_call G_l_cell_at (hr.mono (by decide)) rfl T.m_l_cell_at T.F_l_cell_at.kp T.b_l_cell_at .nil pass0 (pa_cons (pv 0) (pa_cons pe_int pa_nil))) pe_int)) pa_nil)))
      (pss_cons (ps_set (i := 2) sc_law.nd rfl (Or.inl rfl) (pe_lst pa_nil))
      (pss_cons (ps_set (i := 3) sc_law.nd rfl (Or.inl rfl) (pe_op op_mod (pe_op op_fdivW (pe_call G_l_cell_at (hr.mono (by decide)) rfl T.m_l_cell_at T.F_l_cell_at.kp T.b_l_cell_at .nil pass0 (pa_cons (pv 0) (pa_cons pe_int pa_nil))) pe_int) pe_int))
      (pss_cons (ps_set (i := 4) sc_law.nd rfl (Or.inl rfl) pe_int)
      (pss_cons (ps_for PassesOwn.never rfl (pi_range1 rfl T.n_range (pa_cons (pe_op op_mod (pe_call G_l_cell_at (hr.mono (by decide)) rfl T.m_l_cell_at T.F_l_cell_at.kp T.b_l_cell_at .nil pass0 (pa_cons (pv 0) (pa_cons pe_int pa_nil))) pe_int) pa_nil)) (pg_name (i := 5) sc_law.nd rfl (Or.inl rfl)) (pss_cons (ps_set (i := 6) sc_law.nd rfl (Or.inl rfl) (pe_op op_add (pv 4) (pe_call G_l_number_by (hr.mono (by decide)) rfl T.m_l_number_by T.F_l_number_by.kp T.b_l_number_by .nil pass0 (pa_cons (pe_call G_l_cell_at (hr.mono (by decide)) rfl T.m_l_cell_at T.F_l_cell_at.kp T.b_l_cell_at .nil pass0 (pa_cons (pv 0) (pa_cons (pe_op op_add pe_int (pe_op op_mulW pe_int (pv 5))) pa_nil))) (pa_cons (pe_call G_l_cell_at (hr.mono (by decide)) rfl T.m_l_cell_at T.F_l_cell_at.kp T.b_l_cell_at .nil pass0 (pa_cons (pv 0) (pa_cons (pe_op op_add pe_int (pe_op op_mulW pe_int (pv 5))) pa_nil))) pa_nil)))))
      (pss_cons (ps_expr (pe_meth (pv 1) T.cl_Store T.M_Store_put G_Store_put (hr.mono (by decide)) T.b_Store_put .nil passN (pa_cons (pv 6) (pa_cons (pe_op op_add_str (pe_callTy call_str_int rfl T.n_str (by decide +kernel) (pa_cons (pv 5) pa_nil)) pe_str) pa_nil))))
      (pss_cons (ps_expr (pe_bm PySem.F.plainAttrs_list PySem.F.slot_list_append PySem.F.type_list_append mt_append (pv 2) (pa_cons (pe_tup (pa_cons (pv 6) (pa_cons (pe_op op_add_str (pe_callTy call_str_int rfl T.n_str (by decide +kernel) (pa_cons (pv 5) pa_nil)) pe_str) pa_nil))) pa_nil)))
      (pss_one (ps_if (PW.pt (pw_and (pt_cmpR op_gt (pv 3) pe_int (nomark _)) (pw_and1 (pt_cmpR op_eq (pe_op op_mod (pe_op op_fdivW (pe_call G_l_cell_at (hr.mono (by decide)) rfl T.m_l_cell_at T.F_l_cell_at.kp T.b_l_cell_at .nil pass0 (pa_cons (pv 0) (pa_cons (pe_op op_add pe_int (pe_op op_mulW pe_int (pv 5))) pa_nil))) pe_int) pe_int) pe_int (nomark _))))) (pss_cons (ps_set (i := 3) sc_law.nd rfl (Or.inl rfl) (pe_op op_sub (pv 3) pe_int))
      (pss_cons (ps_set (i := 7) sc_law.nd rfl (Or.inl rfl) (pe_call G_l_first (hr.mono (by decide)) rfl T.m_l_first T.F_l_first.kp T.b_l_first .nil pass0 (pa_cons (pv 2) pa_nil)))
      (pss_cons (ps_set (i := 4) sc_law.nd rfl (Or.inl rfl) (pe_ix ix_tup (pe_ix ix_list (pv 2) (pv 7) (fun _ _ => rfl)) pe_int (fun _ _ => rfl)))
      (pss_cons (ps_expr (pe_meth0 (pv 1) T.cl_Store T.M_Store_take G_Store_take (hr.mono (by decide)) T.b_Store_take .nil passN))
      (pss_one (ps_set (i := 2) sc_law.nd rfl (Or.inl rfl) (pe_op op_cat (pe_slice sl_list (pv 2) po_none (po_some (pv 7))) (pe_slice sl_list (pv 2) (po_some (pe_op op_add (pv 7) pe_int)) po_none)))))))) pss_nil))))))
      (pss_cons (ps_set (i := 8) sc_law.nd rfl (Or.inl rfl) (pe_lst (pa_cons (pe_callTy call_list_of rfl T.n_list (by decide +kernel) (pa_cons (pe_meth0 (pv 1) T.cl_Store T.M_Store_rows G_Store_rows (hr.mono (by decide)) T.b_Store_rows .nil pass0) pa_nil)) (pa_cons (pe_fld (pv 1) rfl) (pa_cons (pe_fld (pv 1) rfl) (pa_cons (pe_fld (pv 1) rfl) pa_nil))))))
      (C8.pss_cut (ps_if (pt_cmpR (op_eqD hr.units) (pv 2) (pe_lst pa_nil) (nomark _)) (pss_one (ps_if (pt_not (pt_val (pe_call G_l_bare (hr.mono (by decide)) rfl T.m_l_bare T.F_l_bare.kp T.b_l_bare .nil pass0 (pa_cons (pv 1) pa_nil)))) (pss_one (ps_ret pe_bl)) pss_nil)) (pss_cons (ps_set (i := 9) sc_law.nd rfl (Or.inl rfl) (pe_ix ix_list (pv 2) (pe_call G_l_first (hr.mono (by decide)) rfl T.m_l_first T.F_l_first.kp T.b_l_first .nil pass0 (pa_cons (pv 2) pa_nil)) (fun _ _ => rfl)))
      (pss_one (ps_if (pt_not (pt_val (pe_call G_l_told (hr.mono (by decide)) rfl T.m_l_told T.F_l_told.kp T.b_l_told .nil pass0 (pa_cons (pv 1) (pa_cons (pe_ix ix_tup (pv 9) pe_int (fun _ _ => rfl)) (pa_cons (pe_ix ix_tup (pv 9) pe_int (fun _ _ => rfl)) pa_nil)))))) (pss_one (ps_ret pe_bl)) pss_nil))))
      (pss_cons (ps_if (pt_cmpR (op_neD hr.units) (pe_lst (pa_cons (pe_meth0 (pv 1) T.cl_Store T.M_Store_rows G_Store_rows (hr.mono (by decide)) T.b_Store_rows .nil pass0) (pa_cons (pe_fld (pv 1) rfl) (pa_cons (pe_fld (pv 1) rfl) (pa_cons (pe_fld (pv 1) rfl) pa_nil))))) (pv 8) (nomark _)) (pss_one (ps_ret pe_bl)) pss_nil)
      (pss_cons (ps_set (i := 10) sc_law.nd rfl (Or.inl rfl) (pe_op op_add (pv 4) (pe_op op_mod (pe_call G_l_cell_at (hr.mono (by decide)) rfl T.m_l_cell_at T.F_l_cell_at.kp T.b_l_cell_at .nil pass0 (pa_cons (pv 0) (pa_cons pe_int pa_nil))) pe_int)))
      (pss_cons (ps_expr (pe_meth (pv 1) T.cl_Store T.M_Store_put G_Store_put (hr.mono (by decide)) T.b_Store_put .nil passN (pa_cons (pv 10) (pa_cons pe_str pa_nil))))
      (pss_cons (ps_expr (pe_bm PySem.F.plainAttrs_list PySem.F.slot_list_append PySem.F.type_list_append mt_append (pv 2) (pa_cons (pe_tup (pa_cons (pv 10) (pa_cons pe_str pa_nil))) pa_nil)))
      (pss_cons (ps_set (i := 9) sc_law.nd rfl (Or.inl rfl) (pe_ix ix_list (pv 2) (pe_call G_l_first (hr.mono (by decide)) rfl T.m_l_first T.F_l_first.kp T.b_l_first .nil pass0 (pa_cons (pv 2) pa_nil)) (fun _ _ => rfl)))
      (pss_one (ps_ret (pe_and (pe_call G_l_told (hr.mono (by decide)) rfl T.m_l_told T.F_l_told.kp T.b_l_told .nil pass0 (pa_cons (pv 1) (pa_cons (pe_ix ix_tup (pv 9) pe_int (fun _ _ => rfl)) (pa_cons (pe_ix ix_tup (pv 9) pe_int (fun _ _ => rfl)) pa_nil)))) (pe_one (pe_cmpR (op_eqD hr.units) (pe_slice sl_tup (pe_meth0 (pv 1) T.cl_Store T.M_Store_take G_Store_take (hr.mono (by decide)) T.b_Store_take .nil passN) po_none (po_some pe_int)) (pv 9) (nomark _)))))))))))))))))), ?_⟩
    obtain ⟨b0, eb, hb⟩ := modn (cellI ns 0) (m := 15) (by decide)
    obtain ⟨b, ebb, h2, h16⟩ : ∃ b : Nat, (2 : Int) + cellI ns 0 % 15 = b ∧ 2 ≤ b ∧ b ≤ 16 := ⟨2 + b0, by omega, by omega, by omega⟩
    refine ⟨_, rfl, x, ns, 0, rfl, hS, _, _, rfl, rfl, (by show (0 : Int) < 15; decide), _, _, rfl, rfl, ?_⟩
    dsimp only
    rw [ebb]
    intro p dx np ndx nex
    refine ⟨p, dx, b, rfl, upd_same, fun z => by omega, fun b' e' _ _ bl H2 A2 K2 => ⟨rfl, ?_⟩⟩
    obtain rfl : b = b' := by omega
    have X2 := (Scr.of hS).kp (kp_made np ndx K2)
    refine ⟨Nat.zero_le _, fun r hr0 => ?_⟩
    have s3 : Same H2 (upd H2 r (.lst [])) := same_upd1 hr0
    have R0 : Run a.C_Store (10 ^ 40) p bl r b 0 (upd H2 r (.lst [])) [] [] (Sto.new b) [] := ⟨(Led.new A2 h2 h16).keep s3, upd_same, A2.new_out hr0, trivial, Nat.zero_le _, Nat.zero_le _, fun q hq => by cases hq⟩
    have X3 := X2.kp (Kp.fresh s3 hr0)
    generalize upd H2 r (.lst []) = H3 at s3 R0 X3
    refine ⟨_, rfl, x, ns, 1, rfl, X3.seq, _, _, rfl, rfl, divW (by decide) (by decide), _, _, rfl, rfl, (by show (0 : Int) < 3; decide), ?_⟩
    dsimp only
    generalize cellI ns 1 / 11 % 3 = g0
    obtain ⟨m, em, hm⟩ := modn (cellI ns 1) (m := 11) (by decide)
    refine ⟨_, rfl, x, ns, 1, rfl, X3.seq, _, _, rfl, rfl, (by show (0 : Int) < 11; decide), _, rfl, by omega, by omega, ?_⟩
    rw [em]
    refine for_range (lo := 0) (n := (m : Int).toNat) (fun i σ H4 => ∃ (bs us : List Addr) (S : Sto Str) (L : List (Nat × Str)) (r : Addr) (g : Int) (v5 v6 v7 v8 v9 v10 : Option V), σ = [some (.ref x), some (.ref p), some (.ref r), some (.int g), some (.int S.last), v5, v6, v7, v8, v9, v10] ∧ Run a.C_Store (10 ^ 40) p bl r b i H4 bs us S L ∧ Scr K (r :: p :: bl :: bs) H4 x (ns.map V.int)) ?_ ?_ ?_
    · exact ⟨[], [], Sto.new b, [], r, g0, none, none, none, none, none, none, rfl, R0, X3⟩
    · rintro i σ H4 hi ⟨bs, us, S, L, r, g, v5, v6, v7, v8, v9, v10, rfl, R, X⟩
      have i63 : i + 1 ≤ 63 := by omega
      have many : S.many = L.length := R.led.holds.many
      have rl := R.len
      rw [show (0 : Int) + (i : Int) = (i : Int) by omega]
      have S4 := X.seq
      have fin : ∀ (H5 : Hp) (r5 : Addr) (bs5 us5 : List Addr) (S5 : Sto Str) (L5 : List (Nat × Str)) (g5 : Int) (w5 w6 w7 w8 w9 w10 : Option V), Run a.C_Store (10 ^ 40) p bl r5 b (i + 1) H5 bs5 us5 S5 L5 → Scr K (r5 :: p :: bl :: bs5) H5 x (ns.map V.int) →
          ∃ (bs us : List Addr) (S : Sto Str) (L : List (Nat × Str)) (r : Addr) (g : Int) (v5 v6 v7 v8 v9 v10 : Option V), [some (.ref x), some (.ref p), some (.ref r5), some (.int g5), some (.int S5.last), w5, w6, w7, w8, w9, w10] = [some (.ref x), some (.ref p), some (.ref r), some (.int g), some (.int S.last), v5, v6, v7, v8, v9, v10] ∧ Run a.C_Store (10 ^ 40) p bl r b (i + 1) H5 bs us S L ∧ Scr K (r :: p :: bl :: bs) H5 x (ns.map V.int) :=
        fun H5 r5 bs5 us5 S5 L5 g5 w5 w6 w7 w8 w9 w10 h1 h2 => ⟨bs5, us5, S5, L5, r5, g5, w5, w6, w7, w8, w9, w10, rfl, h1, h2⟩
      refine ⟨_, rfl, _, rfl, _, rfl, _, _, rfl, rfl, mulS (by decide) (by decide) (by omega) (by omega), _, _, rfl, rfl, x, ns, 2 + 2 * i, congrArg (fun j => [V.ref x, V.int j]) (show (2 : Int) + 2 * i = ((2 + 2 * i : Nat) : Int) by omega), S4, _, rfl, _, rfl, _, _, rfl, rfl, mulS (by decide) (by decide) (by omega) (by omega), _, _, rfl, rfl, x, ns, 3 + 2 * i, congrArg (fun j => [V.ref x, V.int j]) (show (3 : Int) + 2 * i = ((3 + 2 * i : Nat) : Int) by omega), S4, _, _, rfl, fun n hn => ⟨_, _, rfl, rfl, ?_⟩⟩
      dsimp only
      rw [show (S.last : Int) + (n : Int) = ((S.last + n : Nat) : Int) by omega]
      obtain ⟨dx4, ob4⟩ := R.led.st.ob
      have e40 : (i + 1) * 10 ^ 40 = i * 10 ^ 40 + 10 ^ 40 := Nat.succ_mul _ _
      have nT : S.last + n ≤ (i + 1) * 10 ^ 40 := by
        rw [e40]
        exact Nat.add_le_add R.lastb (Nat.le_of_lt hn)
      have n9 : S.last + n < 2 ^ 900 := Nat.lt_of_le_of_lt nT (bigT i63)
      have hy := str_ok (n := i) (by omega)
      refine ⟨_, rfl, p, dx4, _, rfl, ob4, sf_m_put _ _ _ _ _, _, rfl, _, rfl, _, rfl, log_ok (by omega), _, _, rfl, rfl, cat_ok (by omega), p, bl, bs, S, ((S.last + n : Nat) : Int), nm i, rfl, R.led.st, R.led.ok, by have := R.led.len; omega, by omega, hy, fun z => by omega, fun _ z => by omega, fun n' e'' hle => ?_⟩
      obtain rfl : S.last + n = n' := by omega
      refine ⟨by have := R.led.part n9; omega, fun bs5 H5 A5 K5 => ?_⟩
      obtain ⟨er5, ro5⟩ := K5 _ _ R.er R.rout
      refine ⟨_, rfl, Or.inl ⟨rfl, _, SqL.of er5⟩, _, rfl, _, rfl, _, rfl, log_ok (by omega), _, _, rfl, rfl, cat_ok (by omega), (by show 2 ≤ sizeLine; decide), fun u hu => ?_⟩
      have nru : r ≠ u := ne_of_none er5 hu
      have R6 := R.put (Nat.le_add_right _ _) nT n9 hy A5 K5 hu
      refine ⟨r, _, _, rfl, rfl, by rw [upd_ne nru]; exact er5, ?_, ?_⟩
      · rw [List.length_map, R.pairs.len]
        exact Nat.lt_of_lt_of_le (show L.length < 200 by omega) (by decide)
      have X5 : Scr K (r :: p :: bl :: bs5) H5 x (ns.map V.int) := X.kp K5.more
      have X6 : Scr K (r :: p :: bl :: bs5) (upd (upd H5 u (.tup [.int ((S.last + n : Nat) : Int), .str (nm i)])) r (.lst (us.map V.ref ++ [.ref u]))) x (ns.map V.int) := (X5.keep (same_upd1 hu)).kp (kp_upd (by simp))
      have ne6 : L ++ [(S.last + n, nm i)] ≠ [] := by simp
      have l6 : (L ++ [(S.last + n, nm i)]).length ≤ 100 := by
        rw [List.length_append]
        show L.length + 1 ≤ 100
        omega
      dsimp only
      rw [show Str.ofString (toString (i : Int)) ++ Str.ofString "'" = nm i from rfl]
      generalize hH6 : upd (upd H5 u (.tup [.int ((S.last + n : Nat) : Int), .str (nm i)])) r (.lst (us.map V.ref ++ [.ref u])) = H6 at R6 X6
      have el6 : (S.put (S.last + n) (nm i)).last = S.last := rfl
      refine if_and (fun H' => H' = H6) (decide (0 < g)) (decide (V.int (cellI ns (3 + 2 * i) / 3 % 2) = V.int 1)) rfl ?T1 ?T2 ?T3 ?T4
      case T1 =>
        intro Q q
        exact ⟨_, rfl, _, _, rfl, rfl, _, rfl, q⟩
      case T2 =>
        intro _ Q q
        exact ⟨_, rfl, _, rfl, _, _, rfl, rfl, mulS (by decide) (by decide) (by omega) (by omega), _, _, rfl, rfl, x, ns, 3 + 2 * i, congrArg (fun j => [V.ref x, V.int j]) (show (3 : Int) + 2 * i = ((3 + 2 * i : Nat) : Int) by omega), X6.seq, _, _, rfl, rfl, divW (by decide) (by decide), _, _, rfl, rfl, (by show (0 : Int) < 2; decide), rfl, _, rfl, q _ rfl⟩
      case T4 =>
        rintro H7 rfl
        exact fin _ r bs5 _ (S.put (S.last + n) (nm i)) _ g _ _ _ _ _ _ R6 X6
      case T3 =>
        rintro kz H7 rfl
        generalize L ++ [(S.last + n, nm i)] = L6 at R6 ne6 l6
        generalize S.put (S.last + n) (nm i) = S6 at R6
        generalize us ++ [u] = us6 at R6
        have many6 : S6.many = L6.length := R6.led.holds.many
        have lp6 : 0 < L6.length := List.length_pos_iff.mpr ne6
        refine ⟨_, rfl, _, _, rfl, rfl, ?_⟩
        refine ⟨_, rfl, r, us6, L6, rfl, R6.er, R6.pairs, ne6, by omega, fun k c fa => ?_⟩
        obtain ⟨t, et, at_, eat, hk⟩ := R6.first fa
        have hkl : k ≤ (us6.map V.ref).length := by rw [List.length_map]; omega
        have hkl1 : k + 1 ≤ (us6.map V.ref).length := by rw [List.length_map]; omega
        refine ⟨_, rfl, _, rfl, r, _, _, _, rfl, rfl, SqL.of R6.er, eat, t, _, _, _, rfl, rfl, SqT.of at_.1, atI_nat (j := 0) rfl, ?_⟩
        obtain ⟨dx6, ob6⟩ := R6.led.st.ob
        refine ⟨_, rfl, p, dx6, _, rfl, ob6, sf_m_take _ _ _ _ _, p, bl, bs5, S6, rfl, R6.led.st, R6.led.ok, by omega, fun z => by omega, fun _ bs8 v h H8 A8 K8 eh8 hx8 ev => ?_⟩
        have c9 : c.1 < 2 ^ 900 := Nat.lt_of_le_of_lt (R6.bd c (List.mem_of_getElem? fa.1)) (bigT i63)
        obtain ⟨A9, el9, hn9, hx9⟩ := R6.led.take fa.split eh8 c9 A8
        obtain ⟨er8, ro8⟩ := K8 _ _ R6.er R6.rout
        have X8 : Scr K (r :: p :: bl :: bs8) H8 x (ns.map V.int) := X6.kp K8.more
        refine ⟨_, rfl, _, rfl, _, rfl, r, _, rfl, SqL.of er8, fun l1 hl1 => ?_⟩
        rw [cut_to _ hkl]
        have n1 : r ≠ l1 := ne_of_none er8 hl1
        have e1 : (upd H8 l1 (.lst ((us6.map V.ref).take k))) r = some (.lst (us6.map V.ref)) := by rw [upd_ne n1]; exact er8
        refine ⟨_, rfl, _, rfl, _, _, rfl, rfl, _, rfl, r, _, rfl, SqL.of e1, fun l2 hl2 => ?_⟩
        rw [show (k : Int) + 1 = ((k + 1 : Nat) : Int) by omega, cut_from _ hkl1]
        have n2 : l1 ≠ l2 := ne_of_none upd_same hl2
        refine ⟨l1, l2, _, _, rfl, rfl, by rw [upd_ne n2, upd_same], upd_same, ?_, fun r5 hr5 => ?_⟩
        · rw [List.length_take, List.length_drop, List.length_map, R6.pairs.len]
          exact Nat.le_trans (show _ ≤ 200 by omega) (by decide)
        have s9 : Same H8 (upd (upd (upd H8 l1 (.lst ((us6.map V.ref).take k))) l2 (.lst ((us6.map V.ref).drop (k + 1)))) r5 (.lst ((us6.map V.ref).take k ++ (us6.map V.ref).drop (k + 1)))) := (same_upd1 hl1).trans ((same_upd1 hl2).trans (same_upd1 hr5))
        have fr5 : H8 r5 = none := ((same_upd1 hl1).trans (same_upd1 hl2)).free hr5
        have R9 := R6.gone fa A9 el9 K8 s9 fr5 upd_same
        have X9 : Scr K (r5 :: p :: bl :: bs8) _ x (ns.map V.int) := X8.kp (Kp.swap s9 fr5)
        have := fin _ r5 bs8 _ S6.take _ (g - 1) (some (.int i)) (some (.int ((S.last + n : Nat) : Int))) (some (.int k)) v8 v9 v10 R9 X9
        rw [el9] at this
        exact this
    · rintro σ H4 ⟨bs, us, S, L, r, g, v5, v6, v7, v8, v9, v10, rfl, R, X⟩
      have many : S.many = L.length := R.led.holds.many
      have rl := R.len
      have m10 : (m : Int).toNat ≤ 10 := by omega
      obtain ⟨dx, ob⟩ := R.led.st.ob
      have hbk : S.bk.length ≤ 10001 := by have := R.led.len; omega
      have hto : tot S.bk ≤ 10000 := by rw [← R.led.ok.tot]; omega
      refine ⟨_, rfl, p, dx, _, rfl, ob, sf_m_rows _ _ _ _ _, p, bl, bs, S, rfl, R.led.st, hbk, hto, fun l ls H5 s5 fl el L5 _ => ?_⟩
      refine ⟨l, _, rfl, Or.inl (SqL.of el), fun rr hrr => ?_⟩
      have s6 : Same H5 (upd H5 rr (.lst (ls.map V.ref))) := same_upd1 hrr
      have e6 : (upd H5 rr (.lst (ls.map V.ref))) rr = some (.lst (ls.map V.ref)) := upd_same
      generalize upd H5 rr (.lst (ls.map V.ref)) = H6 at s6 e6 ⊢
      have ob6 := s6 _ _ (s5 _ _ ob)
      refine ⟨_, rfl, p, _, dx, _, _, rfl, ob6, T.cl_Store, T.nf_Store_last, sf_last _ _ _ _ _, _, rfl, p, _, dx, _, _, rfl, ob6, T.cl_Store, T.nf_Store_many, sf_many _ _ _ _ _, _, rfl, p, _, dx, _, _, rfl, ob6, T.cl_Store, T.nf_Store_moves, sf_moves _ _ _ _ _, (by show 4 ≤ sizeLine; decide), fun t ht => ?_⟩
      have s7 : Same H6 (upd H6 t (.lst [.ref rr, .int S.last, .int S.many, .int S.moves])) := same_upd1 ht
      have Sn : SeenAt (upd H6 t (.lst [.ref rr, .int S.last, .int S.many, .int S.moves])) t S := ⟨rr, ls, upd_same, s7 _ _ e6, rows_same (s6.trans s7) L5⟩
      have s47 := s5.trans (s6.trans s7)
      generalize upd H6 t (.lst [.ref rr, .int S.last, .int S.many, .int S.moves]) = H7 at s47 Sn
      have R7 := R.keep s47
      have X7 := X.keep s47
      refine ⟨fun σ' H' => ∃ w9 : Option V, σ' = [some (.ref x), some (.ref p), some (.ref r), some (.int g), some (.int S.last), v5, v6, v7, some (.ref t), w9, v10] ∧ Same H7 H', ?C1, ?C2⟩
      case C1 =>
        refine ⟨_, rfl, Nat.zero_le _, fun e he => ?_⟩
        obtain ⟨d1, d2, d3, d4, d5⟩ := R7.emp (K := K) he
        refine ⟨_, _, d1, d2, d3, d4, _, rfl, ?_⟩
        rw [d5]
        have s8 : Same H7 (upd H7 e (.lst [])) := same_upd1 he
        have R8 := R7.keep s8
        generalize upd H7 e (.lst []) = H8 at s8 R8
        refine ifd (fun e0 => ?_) (fun ne => ?_)
        · subst e0
          exact ⟨_, rfl, p, bl, bs, S, rfl, R8.led.st, R8.led.ok, many, fun H9 s9 => ⟨true, rfl, iteF ⟨v9, rfl, s8.trans s9⟩⟩⟩
        · refine ⟨_, rfl, _, rfl, r, us, L, rfl, R8.er, R8.pairs, ne, by omega, fun k c fa => ?_⟩
          obtain ⟨u, eu, au, eat, hk⟩ := R8.first fa
          refine ⟨r, _, _, _, rfl, rfl, SqL.of R8.er, eat, ?_⟩
          exact ⟨_, rfl, _, rfl, u, _, _, _, rfl, rfl, SqT.of au.1, atI_nat (j := 0) rfl, _, rfl, u, _, _, _, rfl, rfl, SqT.of au.1, atI_nat (j := 1) rfl, p, bl, bs, S, b, L, _, _, c, rfl, au.2, R8.led, fa.split, fun H9 s9 => ⟨true, rfl, iteF ⟨_, rfl, s8.trans s9⟩⟩⟩
      case C2 =>
        rintro σ' H8 ⟨w9, rfl, s8⟩
        have R8 := R7.keep s8
        have X8 := X7.keep s8
        have Sn8 := Sn.keep s8
        obtain ⟨dx8, ob8⟩ := R8.led.st.ob
        refine ⟨_, rfl, p, dx8, _, rfl, ob8, sf_m_rows _ _ _ _ _, p, bl, bs, S, rfl, R8.led.st, hbk, hto, fun l2 ls2 H9 s9 fl2 el2 L9 _ => ?_⟩
        have ob9 := s9 _ _ ob8
        refine ⟨_, rfl, p, _, dx8, _, _, rfl, ob9, T.cl_Store, T.nf_Store_last, sf_last _ _ _ _ _, _, rfl, p, _, dx8, _, _, rfl, ob9, T.cl_Store, T.nf_Store_many, sf_many _ _ _ _ _, _, rfl, p, _, dx8, _, _, rfl, ob9, T.cl_Store, T.nf_Store_moves, sf_moves _ _ _ _ _, (by show 4 ≤ sizeLine; decide), fun t2 ht2 => ?_⟩
        have s10 : Same H9 (upd H9 t2 (.lst [.ref l2, .int S.last, .int S.many, .int S.moves])) := same_upd1 ht2
        have Sm : SeenAt (upd H9 t2 (.lst [.ref l2, .int S.last, .int S.many, .int S.moves])) t2 S := ⟨l2, ls2, upd_same, s10 _ _ el2, rows_same s10 L9⟩
        have s810 := s9.trans s10
        have Sn10 := Sn8.keep s810
        generalize upd H9 t2 (.lst [.ref l2, .int S.last, .int S.many, .int S.moves]) = H10 at s10 s810 Sm Sn10
        obtain ⟨d1, d2⟩ := Sm.dp (K := K)
        obtain ⟨d3, d4⟩ := Sn10.dp (K := K)
        refine ⟨_, rfl, _, _, d1, d3, d2, d4, _, rfl, ?_⟩
        rw [seen_eqv]
        refine iteF ?_
        have R10 := R8.keep s810
        have X10 := X8.keep s810
        obtain ⟨f, ef, hf⟩ := modn (cellI ns 24) (m := 30) (by decide)
        refine ⟨_, rfl, _, rfl, x, ns, 24, rfl, X10.seq, _, _, rfl, rfl, (by show (0 : Int) < 30; decide), _, _, rfl, rfl, ?_⟩
        dsimp only
        rw [ef, show (S.last : Int) + (f : Int) = ((S.last + f : Nat) : Int) by omega]
        have lb := R10.lastb
        have e40 : ((m : Int).toNat + 1) * 10 ^ 40 = (m : Int).toNat * 10 ^ 40 + 10 ^ 40 := Nat.succ_mul _ _
        have f40 : f ≤ 10 ^ 40 := Nat.le_trans (show f ≤ 30 by omega) (by decide +kernel)
        have nT : S.last + f ≤ ((m : Int).toNat + 1) * 10 ^ 40 := by
          rw [e40]
          exact Nat.add_le_add lb f40
        have n9 : S.last + f < 2 ^ 900 := Nat.lt_of_le_of_lt nT (bigT (by omega))
        have hz : NameOk (Str.ofString "z") := ⟨by decide +kernel, by decide +kernel⟩
        obtain ⟨dx10, ob10⟩ := R10.led.st.ob
        refine ⟨_, rfl, p, dx10, _, rfl, ob10, sf_m_put _ _ _ _ _, _, rfl, p, bl, bs, S, ((S.last + f : Nat) : Int), Str.ofString "z", rfl, R10.led.st, R10.led.ok, hbk, by omega, hz, fun z => by omega, fun _ z => by omega, fun n' e'' hle => ?_⟩
        obtain rfl : S.last + f = n' := by omega
        refine ⟨by have := R10.led.part n9; omega, fun bs11 H11 A11 K11 => ?_⟩
        obtain ⟨er11, ro11⟩ := K11 _ _ R10.er R10.rout
        refine ⟨_, rfl, Or.inl ⟨rfl, _, SqL.of er11⟩, _, rfl, (by show 2 ≤ sizeLine; decide), fun u hu => ?_⟩
        have nru : r ≠ u := ne_of_none er11 hu
        have R12 := R10.put (Nat.le_add_right _ _) nT n9 hz A11 K11 hu
        refine ⟨r, _, _, rfl, rfl, by rw [upd_ne nru]; exact er11, ?_, ?_⟩
        · rw [List.length_map, R10.pairs.len]
          exact Nat.lt_of_lt_of_le (show L.length < 200 by omega) (by decide)
        generalize upd (upd H11 u (.tup [.int ((S.last + f : Nat) : Int), .str (Str.ofString "z")])) r (.lst (us.map V.ref ++ [.ref u])) = H12 at R12 ⊢
        have ne12 : L ++ [(S.last + f, Str.ofString "z")] ≠ [] := by simp
        have l12 : (L ++ [(S.last + f, Str.ofString "z")]).length ≤ 100 := by
          rw [List.length_append]
          show L.length + 1 ≤ 100
          omega
        generalize L ++ [(S.last + f, Str.ofString "z")] = L12 at R12 ne12 l12
        generalize S.put (S.last + f) (Str.ofString "z") = S12 at R12
        generalize us ++ [u] = us12 at R12
        refine ⟨_, rfl, _, rfl, r, us12, L12, rfl, R12.er, R12.pairs, ne12, by omega, fun k c fa => ?_⟩
        obtain ⟨w, ew, aw, eat, hk⟩ := R12.first fa
        refine ⟨r, _, _, _, rfl, rfl, SqL.of R12.er, eat, ?_⟩
        refine ⟨_, rfl, _, rfl, w, _, _, _, rfl, rfl, SqT.of aw.1, atI_nat (j := 0) rfl, _, rfl, w, _, _, _, rfl, rfl, SqT.of aw.1, atI_nat (j := 1) rfl, p, bl, bs11, S12, b, L12, _, _, c, rfl, aw.2, R12.led, fa.split, fun H13 s13 => ⟨true, rfl, iteT ?_⟩⟩
        have R13 := R12.keep s13
        obtain ⟨dx13, ob13⟩ := R13.led.st.ob
        have m13 : S12.many = L12.length := R13.led.holds.many
        have lp13 : 0 < L12.length := List.length_pos_iff.mpr ne12
        refine ⟨_, rfl, p, dx13, _, rfl, ob13, sf_m_take _ _ _ _ _, p, bl, bs11, S12, rfl, R13.led.st, R13.led.ok, by omega, fun z => by omega, fun _ bs14 v h H14 A14 K14 eh14 hx14 ev => ?_⟩
        have c9 : c.1 < 2 ^ 900 := Nat.lt_of_le_of_lt (R13.bd c (List.mem_of_getElem? fa.1)) (bigT (by omega))
        obtain ⟨A15, el15, hn15, hx15⟩ := R13.led.take fa.split eh14 c9 A14
        rw [hn15, hx15] at ev
        have aw14 : PairAt H14 w c := ⟨(K14 _ _ (s13 _ _ aw.1) (R13.led.st.tup_out (s13 _ _ aw.1))).1, aw.2⟩
        refine ⟨2, rfl, v, _, rfl, SqT.of ev, (fun z => absurd z.2 (by show ¬ (min 2 3 = 3); decide)), fun y hy => ?_⟩
        rw [show cutV [V.int (c.1 : Int), V.str c.2, V.int (h.c : Int)] none (some 2) = [V.int (c.1 : Int), V.str c.2] from by rw [show (some 2 : Option Int) = some ((2 : Nat) : Int) from rfl, cut_to _ (by show 2 ≤ 3; decide)]; rfl]
        have s15 : Same H14 (upd H14 y (.tup [.int c.1, .str c.2])) := same_upd1 hy
        have ay : PairAt (upd H14 y (.tup [.int c.1, .str c.2])) y c := ⟨upd_same, aw.2⟩
        have aw15 : PairAt (upd H14 y (.tup [.int c.1, .str c.2])) w c := ⟨s15 _ _ aw14.1, aw.2⟩
        refine ⟨_, rfl, prD c, prD c, pr_dp ay, pr_dp aw15, pr_shaped aw.2, pr_shaped aw.2, ?_⟩
        rw [pr_eqv]
        exact q _
theorem all_mk {l : PySem.W.OpenLaw} {w : World} {K : PySem.W.Frag} {h : Heap} {mg : Str → Option Value} {fa f_need_base f_need_number f_parting f_Store_init f_Store_room f_Store_put f_Store_lowest f_Store_fall f_Store_take f_Store_least f_Store_rows f_l_cell_at f_l_whole f_l_number_by f_l_first f_l_words f_l_bare f_l_told f_law C_FallError C_NoBase C_NoNumber C_Late C_Bare C_Store : Addr} (X : K.In h) (G : h.Ns mainGlobals mg) (hfa : mg "law" = some (.ref fa))
    {od_need_base an_need_base od_need_number an_need_number od_parting an_parting od_Store_init an_Store_init od_Store_room an_Store_room od_Store_put an_Store_put od_Store_lowest an_Store_lowest od_Store_fall an_Store_fall od_Store_take an_Store_take od_Store_least an_Store_least od_Store_rows an_Store_rows od_l_cell_at an_l_cell_at od_l_whole an_l_whole od_l_number_by an_l_number_by od_l_first an_l_first od_l_words an_l_words od_l_bare an_l_bare od_l_told an_l_told od_law an_law : Option Addr} {sl_need_base sl_need_number sl_parting sl_Store_init sl_Store_room sl_Store_put sl_Store_lowest sl_Store_fall sl_Store_take sl_Store_least sl_Store_rows sl_l_cell_at sl_l_whole sl_l_number_by sl_l_first sl_l_words sl_l_bare sl_l_told sl_law : Array (Option Value)} {oc_need_base kV_need_base dc_need_base pm_need_base cd_need_base ct_need_base oc_need_number kV_need_number dc_need_number pm_need_number cd_need_number ct_need_number oc_parting kV_parting dc_parting pm_parting cd_parting ct_parting oc_Store_init kV_Store_init dc_Store_init pm_Store_init cd_Store_init ct_Store_init oc_Store_room kV_Store_room dc_Store_room pm_Store_room cd_Store_room ct_Store_room oc_Store_put kV_Store_put dc_Store_put pm_Store_put cd_Store_put ct_Store_put oc_Store_lowest kV_Store_lowest dc_Store_lowest pm_Store_lowest cd_Store_lowest ct_Store_lowest oc_Store_fall kV_Store_fall dc_Store_fall pm_Store_fall cd_Store_fall ct_Store_fall oc_Store_take kV_Store_take dc_Store_take pm_Store_take cd_Store_take ct_Store_take oc_Store_least kV_Store_least dc_Store_least pm_Store_least cd_Store_least ct_Store_least oc_Store_rows kV_Store_rows dc_Store_rows pm_Store_rows cd_Store_rows ct_Store_rows oc_l_cell_at kV_l_cell_at dc_l_cell_at pm_l_cell_at cd_l_cell_at ct_l_cell_at oc_l_whole kV_l_whole dc_l_whole pm_l_whole cd_l_whole ct_l_whole oc_l_number_by kV_l_number_by dc_l_number_by pm_l_number_by cd_l_number_by ct_l_number_by oc_l_first kV_l_first dc_l_first pm_l_first cd_l_first ct_l_first oc_l_words kV_l_words dc_l_words pm_l_words cd_l_words ct_l_words oc_l_bare kV_l_bare dc_l_bare pm_l_bare cd_l_bare ct_l_bare oc_l_told kV_l_told dc_l_told pm_l_told cd_l_told ct_l_told oc_law kV_law dc_law pm_law cd_law ct_law : Value}
    (ac_FallError : PySem.W.nsIn K mainGlobals "FallError" = some (some (.ref C_FallError)))
    (ac_NoBase : PySem.W.nsIn K mainGlobals "NoBase" = some (some (.ref C_NoBase)))
    (ac_NoNumber : PySem.W.nsIn K mainGlobals "NoNumber" = some (some (.ref C_NoNumber)))
    (ac_Late : PySem.W.nsIn K mainGlobals "Late" = some (some (.ref C_Late)))
    (ac_Bare : PySem.W.nsIn K mainGlobals "Bare" = some (some (.ref C_Bare)))
    (ac_Store : PySem.W.nsIn K mainGlobals "Store" = some (some (.ref C_Store)))
    (a_need_base : PySem.W.nsIn K mainGlobals "need_base" = some (some (.ref f_need_base)))
    (l_need_base : K.lookup f_need_base = some ⟨oc_need_base, od_need_base, .func (PySem.W.fnOf "need_base" "need_base" (defArgs s_need_base) (defBody s_need_base) (defScope s_need_base) .none kV_need_base dc_need_base pm_need_base an_need_base cd_need_base ct_need_base), sl_need_base⟩)
    (c_need_base : PySem.W.codeIn K cd_need_base "need_base" = true)
    (k_need_base : PySem.W.keepIn K (.ref f_need_base) = true)
    (a_need_number : PySem.W.nsIn K mainGlobals "need_number" = some (some (.ref f_need_number)))
    (l_need_number : K.lookup f_need_number = some ⟨oc_need_number, od_need_number, .func (PySem.W.fnOf "need_number" "need_number" (defArgs s_need_number) (defBody s_need_number) (defScope s_need_number) .none kV_need_number dc_need_number pm_need_number an_need_number cd_need_number ct_need_number), sl_need_number⟩)
    (c_need_number : PySem.W.codeIn K cd_need_number "need_number" = true)
    (k_need_number : PySem.W.keepIn K (.ref f_need_number) = true)
    (a_parting : PySem.W.nsIn K mainGlobals "parting" = some (some (.ref f_parting)))
    (l_parting : K.lookup f_parting = some ⟨oc_parting, od_parting, .func (PySem.W.fnOf "parting" "parting" (defArgs s_parting) (defBody s_parting) (defScope s_parting) .none kV_parting dc_parting pm_parting an_parting cd_parting ct_parting), sl_parting⟩)
    (c_parting : PySem.W.codeIn K cd_parting "parting" = true)
    (k_parting : PySem.W.keepIn K (.ref f_parting) = true)
    (a_Store_init : PySem.W.findIn K (.ref C_Store) "__init__" = some (some (.ref f_Store_init)))
    (i_Store_init : PySem.W.isFn K (.ref f_Store_init) = true)
    (l_Store_init : K.lookup f_Store_init = some ⟨oc_Store_init, od_Store_init, .func (PySem.W.fnOf "__init__" "Store.__init__" (defArgs s_Store_init) (defBody s_Store_init) (defScope s_Store_init) .none kV_Store_init dc_Store_init pm_Store_init an_Store_init cd_Store_init ct_Store_init), sl_Store_init⟩)
    (c_Store_init : PySem.W.codeIn K cd_Store_init "Store.__init__" = true)
    (k_Store_init : PySem.W.keepIn K (.ref f_Store_init) = true)
    (a_Store_room : PySem.W.findIn K (.ref C_Store) "room" = some (some (.ref f_Store_room)))
    (i_Store_room : PySem.W.isFn K (.ref f_Store_room) = true)
    (l_Store_room : K.lookup f_Store_room = some ⟨oc_Store_room, od_Store_room, .func (PySem.W.fnOf "room" "Store.room" (defArgs s_Store_room) (defBody s_Store_room) (defScope s_Store_room) .none kV_Store_room dc_Store_room pm_Store_room an_Store_room cd_Store_room ct_Store_room), sl_Store_room⟩)
    (c_Store_room : PySem.W.codeIn K cd_Store_room "Store.room" = true)
    (k_Store_room : PySem.W.keepIn K (.ref f_Store_room) = true)
    (a_Store_put : PySem.W.findIn K (.ref C_Store) "put" = some (some (.ref f_Store_put)))
    (i_Store_put : PySem.W.isFn K (.ref f_Store_put) = true)
    (l_Store_put : K.lookup f_Store_put = some ⟨oc_Store_put, od_Store_put, .func (PySem.W.fnOf "put" "Store.put" (defArgs s_Store_put) (defBody s_Store_put) (defScope s_Store_put) .none kV_Store_put dc_Store_put pm_Store_put an_Store_put cd_Store_put ct_Store_put), sl_Store_put⟩)
    (c_Store_put : PySem.W.codeIn K cd_Store_put "Store.put" = true)
    (k_Store_put : PySem.W.keepIn K (.ref f_Store_put) = true)
    (a_Store_lowest : PySem.W.findIn K (.ref C_Store) "lowest" = some (some (.ref f_Store_lowest)))
    (i_Store_lowest : PySem.W.isFn K (.ref f_Store_lowest) = true)
    (l_Store_lowest : K.lookup f_Store_lowest = some ⟨oc_Store_lowest, od_Store_lowest, .func (PySem.W.fnOf "lowest" "Store.lowest" (defArgs s_Store_lowest) (defBody s_Store_lowest) (defScope s_Store_lowest) .none kV_Store_lowest dc_Store_lowest pm_Store_lowest an_Store_lowest cd_Store_lowest ct_Store_lowest), sl_Store_lowest⟩)
    (c_Store_lowest : PySem.W.codeIn K cd_Store_lowest "Store.lowest" = true)
    (k_Store_lowest : PySem.W.keepIn K (.ref f_Store_lowest) = true)
    (a_Store_fall : PySem.W.findIn K (.ref C_Store) "fall" = some (some (.ref f_Store_fall)))
    (i_Store_fall : PySem.W.isFn K (.ref f_Store_fall) = true)
    (l_Store_fall : K.lookup f_Store_fall = some ⟨oc_Store_fall, od_Store_fall, .func (PySem.W.fnOf "fall" "Store.fall" (defArgs s_Store_fall) (defBody s_Store_fall) (defScope s_Store_fall) .none kV_Store_fall dc_Store_fall pm_Store_fall an_Store_fall cd_Store_fall ct_Store_fall), sl_Store_fall⟩)
    (c_Store_fall : PySem.W.codeIn K cd_Store_fall "Store.fall" = true)
    (k_Store_fall : PySem.W.keepIn K (.ref f_Store_fall) = true)
    (a_Store_take : PySem.W.findIn K (.ref C_Store) "take" = some (some (.ref f_Store_take)))
    (i_Store_take : PySem.W.isFn K (.ref f_Store_take) = true)
    (l_Store_take : K.lookup f_Store_take = some ⟨oc_Store_take, od_Store_take, .func (PySem.W.fnOf "take" "Store.take" (defArgs s_Store_take) (defBody s_Store_take) (defScope s_Store_take) .none kV_Store_take dc_Store_take pm_Store_take an_Store_take cd_Store_take ct_Store_take), sl_Store_take⟩)
    (c_Store_take : PySem.W.codeIn K cd_Store_take "Store.take" = true)
    (k_Store_take : PySem.W.keepIn K (.ref f_Store_take) = true)
    (a_Store_least : PySem.W.findIn K (.ref C_Store) "least" = some (some (.ref f_Store_least)))
    (i_Store_least : PySem.W.isFn K (.ref f_Store_least) = true)
    (l_Store_least : K.lookup f_Store_least = some ⟨oc_Store_least, od_Store_least, .func (PySem.W.fnOf "least" "Store.least" (defArgs s_Store_least) (defBody s_Store_least) (defScope s_Store_least) .none kV_Store_least dc_Store_least pm_Store_least an_Store_least cd_Store_least ct_Store_least), sl_Store_least⟩)
    (c_Store_least : PySem.W.codeIn K cd_Store_least "Store.least" = true)
    (k_Store_least : PySem.W.keepIn K (.ref f_Store_least) = true)
    (a_Store_rows : PySem.W.findIn K (.ref C_Store) "rows" = some (some (.ref f_Store_rows)))
    (i_Store_rows : PySem.W.isFn K (.ref f_Store_rows) = true)
    (l_Store_rows : K.lookup f_Store_rows = some ⟨oc_Store_rows, od_Store_rows, .func (PySem.W.fnOf "rows" "Store.rows" (defArgs s_Store_rows) (defBody s_Store_rows) (defScope s_Store_rows) .none kV_Store_rows dc_Store_rows pm_Store_rows an_Store_rows cd_Store_rows ct_Store_rows), sl_Store_rows⟩)
    (c_Store_rows : PySem.W.codeIn K cd_Store_rows "Store.rows" = true)
    (k_Store_rows : PySem.W.keepIn K (.ref f_Store_rows) = true)
    (a_l_cell_at : PySem.W.nsIn K mainGlobals "_law_cell_at" = some (some (.ref f_l_cell_at)))
    (l_l_cell_at : K.lookup f_l_cell_at = some ⟨oc_l_cell_at, od_l_cell_at, .func (PySem.W.fnOf "_law_cell_at" "_law_cell_at" (defArgs s_l_cell_at) (defBody s_l_cell_at) (defScope s_l_cell_at) .none kV_l_cell_at dc_l_cell_at pm_l_cell_at an_l_cell_at cd_l_cell_at ct_l_cell_at), sl_l_cell_at⟩)
    (c_l_cell_at : PySem.W.codeIn K cd_l_cell_at "_law_cell_at" = true)
    (k_l_cell_at : PySem.W.keepIn K (.ref f_l_cell_at) = true)
    (a_l_whole : PySem.W.nsIn K mainGlobals "_law_whole" = some (some (.ref f_l_whole)))
    (l_l_whole : K.lookup f_l_whole = some ⟨oc_l_whole, od_l_whole, .func (PySem.W.fnOf "_law_whole" "_law_whole" (defArgs s_l_whole) (defBody s_l_whole) (defScope s_l_whole) .none kV_l_whole dc_l_whole pm_l_whole an_l_whole cd_l_whole ct_l_whole), sl_l_whole⟩)
    (c_l_whole : PySem.W.codeIn K cd_l_whole "_law_whole" = true)
    (k_l_whole : PySem.W.keepIn K (.ref f_l_whole) = true)
    (a_l_number_by : PySem.W.nsIn K mainGlobals "_law_number_by" = some (some (.ref f_l_number_by)))
    (l_l_number_by : K.lookup f_l_number_by = some ⟨oc_l_number_by, od_l_number_by, .func (PySem.W.fnOf "_law_number_by" "_law_number_by" (defArgs s_l_number_by) (defBody s_l_number_by) (defScope s_l_number_by) .none kV_l_number_by dc_l_number_by pm_l_number_by an_l_number_by cd_l_number_by ct_l_number_by), sl_l_number_by⟩)
    (c_l_number_by : PySem.W.codeIn K cd_l_number_by "_law_number_by" = true)
    (k_l_number_by : PySem.W.keepIn K (.ref f_l_number_by) = true)
    (a_l_first : PySem.W.nsIn K mainGlobals "_law_first" = some (some (.ref f_l_first)))
    (l_l_first : K.lookup f_l_first = some ⟨oc_l_first, od_l_first, .func (PySem.W.fnOf "_law_first" "_law_first" (defArgs s_l_first) (defBody s_l_first) (defScope s_l_first) .none kV_l_first dc_l_first pm_l_first an_l_first cd_l_first ct_l_first), sl_l_first⟩)
    (c_l_first : PySem.W.codeIn K cd_l_first "_law_first" = true)
    (k_l_first : PySem.W.keepIn K (.ref f_l_first) = true)
    (a_l_words : PySem.W.nsIn K mainGlobals "_law_words" = some (some (.ref f_l_words)))
    (l_l_words : K.lookup f_l_words = some ⟨oc_l_words, od_l_words, .func (PySem.W.fnOf "_law_words" "_law_words" (defArgs s_l_words) (defBody s_l_words) (defScope s_l_words) .none kV_l_words dc_l_words pm_l_words an_l_words cd_l_words ct_l_words), sl_l_words⟩)
    (c_l_words : PySem.W.codeIn K cd_l_words "_law_words" = true)
    (k_l_words : PySem.W.keepIn K (.ref f_l_words) = true)
    (a_l_bare : PySem.W.nsIn K mainGlobals "_law_bare" = some (some (.ref f_l_bare)))
    (l_l_bare : K.lookup f_l_bare = some ⟨oc_l_bare, od_l_bare, .func (PySem.W.fnOf "_law_bare" "_law_bare" (defArgs s_l_bare) (defBody s_l_bare) (defScope s_l_bare) .none kV_l_bare dc_l_bare pm_l_bare an_l_bare cd_l_bare ct_l_bare), sl_l_bare⟩)
    (c_l_bare : PySem.W.codeIn K cd_l_bare "_law_bare" = true)
    (k_l_bare : PySem.W.keepIn K (.ref f_l_bare) = true)
    (a_l_told : PySem.W.nsIn K mainGlobals "_law_told" = some (some (.ref f_l_told)))
    (l_l_told : K.lookup f_l_told = some ⟨oc_l_told, od_l_told, .func (PySem.W.fnOf "_law_told" "_law_told" (defArgs s_l_told) (defBody s_l_told) (defScope s_l_told) .none kV_l_told dc_l_told pm_l_told an_l_told cd_l_told ct_l_told), sl_l_told⟩)
    (c_l_told : PySem.W.codeIn K cd_l_told "_law_told" = true)
    (k_l_told : PySem.W.keepIn K (.ref f_l_told) = true)
    (a_law : PySem.W.nsIn K mainGlobals "law" = some (some (.ref f_law)))
    (l_law : K.lookup f_law = some ⟨oc_law, od_law, .func (PySem.W.fnOf "law" "law" (defArgs s_law) (defBody s_law) (defScope s_law) .none kV_law dc_law pm_law an_law cd_law ct_law), sl_law⟩)
    (c_law : PySem.W.codeIn K cd_law "law" = true)
    (k_law : PySem.W.keepIn K (.ref f_law) = true)
    (x_FallError : PySem.W.excIn K C_FallError [.type "ValueError", .type "Exception", .type "BaseException", .type "object"] "ValueError.__new__" = true)
    (k_FallError : PySem.W.keepIn K (.ref C_FallError) = true)
    (xb_FallError : PySem.W.subIn K (.ref C_FallError) (.type "BaseException") = some true)
    (xt_FallError : PySem.W.typeIn K (.ref C_FallError) = some (.type "type"))
    (x_NoBase : PySem.W.excIn K C_NoBase [.type "ValueError", .type "Exception", .type "BaseException", .type "object"] "ValueError.__new__" = true)
    (k_NoBase : PySem.W.keepIn K (.ref C_NoBase) = true)
    (xb_NoBase : PySem.W.subIn K (.ref C_NoBase) (.type "BaseException") = some true)
    (xt_NoBase : PySem.W.typeIn K (.ref C_NoBase) = some (.type "type"))
    (x_NoNumber : PySem.W.excIn K C_NoNumber [.type "ValueError", .type "Exception", .type "BaseException", .type "object"] "ValueError.__new__" = true)
    (k_NoNumber : PySem.W.keepIn K (.ref C_NoNumber) = true)
    (xb_NoNumber : PySem.W.subIn K (.ref C_NoNumber) (.type "BaseException") = some true)
    (xt_NoNumber : PySem.W.typeIn K (.ref C_NoNumber) = some (.type "type"))
    (x_Late : PySem.W.excIn K C_Late [.type "ValueError", .type "Exception", .type "BaseException", .type "object"] "ValueError.__new__" = true)
    (k_Late : PySem.W.keepIn K (.ref C_Late) = true)
    (xb_Late : PySem.W.subIn K (.ref C_Late) (.type "BaseException") = some true)
    (xt_Late : PySem.W.typeIn K (.ref C_Late) = some (.type "type"))
    (x_Bare : PySem.W.excIn K C_Bare [.type "ValueError", .type "Exception", .type "BaseException", .type "object"] "ValueError.__new__" = true)
    (k_Bare : PySem.W.keepIn K (.ref C_Bare) = true)
    (xb_Bare : PySem.W.subIn K (.ref C_Bare) (.type "BaseException") = some true)
    (xt_Bare : PySem.W.typeIn K (.ref C_Bare) = some (.type "type"))
    (q_NoBase_NoBase : PySem.W.subIn K (.ref C_NoBase) (.ref C_NoBase) = some true)
    (q_NoBase_NoNumber : PySem.W.subIn K (.ref C_NoBase) (.ref C_NoNumber) = some false)
    (q_NoBase_Late : PySem.W.subIn K (.ref C_NoBase) (.ref C_Late) = some false)
    (q_NoBase_Bare : PySem.W.subIn K (.ref C_NoBase) (.ref C_Bare) = some false)
    (q_NoBase_V : PySem.W.subIn K (.ref C_NoBase) (.type "ValueError") = some true)
    (e_NoBase : PySem.W.subIn K (.ref C_NoBase) (.ref C_FallError) = some true)
    (eg_NoBase : PySem.W.findIn K (.ref C_NoBase) "__getattribute__" = some (some (.builtin "BaseException.__getattribute__")))
    (ek_NoBase : PySem.W.findIn K (.ref C_NoBase) "__getattr__" = some none)
    (ed_NoBase : PySem.W.hasDictIn K C_NoBase = true)
    (ea_NoBase : PySem.W.findIn K (.ref C_NoBase) "__class__" = some (some (.builtin "object.__class__")))
    (em_NoBase : PySem.W.mroIn K C_NoBase (.type "object") = some true)
    (q_NoNumber_NoBase : PySem.W.subIn K (.ref C_NoNumber) (.ref C_NoBase) = some false)
    (q_NoNumber_NoNumber : PySem.W.subIn K (.ref C_NoNumber) (.ref C_NoNumber) = some true)
    (q_NoNumber_Late : PySem.W.subIn K (.ref C_NoNumber) (.ref C_Late) = some false)
    (q_NoNumber_Bare : PySem.W.subIn K (.ref C_NoNumber) (.ref C_Bare) = some false)
    (q_NoNumber_V : PySem.W.subIn K (.ref C_NoNumber) (.type "ValueError") = some true)
    (e_NoNumber : PySem.W.subIn K (.ref C_NoNumber) (.ref C_FallError) = some true)
    (eg_NoNumber : PySem.W.findIn K (.ref C_NoNumber) "__getattribute__" = some (some (.builtin "BaseException.__getattribute__")))
    (ek_NoNumber : PySem.W.findIn K (.ref C_NoNumber) "__getattr__" = some none)
    (ed_NoNumber : PySem.W.hasDictIn K C_NoNumber = true)
    (ea_NoNumber : PySem.W.findIn K (.ref C_NoNumber) "__class__" = some (some (.builtin "object.__class__")))
    (em_NoNumber : PySem.W.mroIn K C_NoNumber (.type "object") = some true)
    (q_Late_NoBase : PySem.W.subIn K (.ref C_Late) (.ref C_NoBase) = some false)
    (q_Late_NoNumber : PySem.W.subIn K (.ref C_Late) (.ref C_NoNumber) = some false)
    (q_Late_Late : PySem.W.subIn K (.ref C_Late) (.ref C_Late) = some true)
    (q_Late_Bare : PySem.W.subIn K (.ref C_Late) (.ref C_Bare) = some false)
    (q_Late_V : PySem.W.subIn K (.ref C_Late) (.type "ValueError") = some true)
    (e_Late : PySem.W.subIn K (.ref C_Late) (.ref C_FallError) = some true)
    (eg_Late : PySem.W.findIn K (.ref C_Late) "__getattribute__" = some (some (.builtin "BaseException.__getattribute__")))
    (ek_Late : PySem.W.findIn K (.ref C_Late) "__getattr__" = some none)
    (ed_Late : PySem.W.hasDictIn K C_Late = true)
    (ea_Late : PySem.W.findIn K (.ref C_Late) "__class__" = some (some (.builtin "object.__class__")))
    (em_Late : PySem.W.mroIn K C_Late (.type "object") = some true)
    (q_Bare_NoBase : PySem.W.subIn K (.ref C_Bare) (.ref C_NoBase) = some false)
    (q_Bare_NoNumber : PySem.W.subIn K (.ref C_Bare) (.ref C_NoNumber) = some false)
    (q_Bare_Late : PySem.W.subIn K (.ref C_Bare) (.ref C_Late) = some false)
    (q_Bare_Bare : PySem.W.subIn K (.ref C_Bare) (.ref C_Bare) = some true)
    (q_Bare_V : PySem.W.subIn K (.ref C_Bare) (.type "ValueError") = some true)
    (e_Bare : PySem.W.subIn K (.ref C_Bare) (.ref C_FallError) = some true)
    (eg_Bare : PySem.W.findIn K (.ref C_Bare) "__getattribute__" = some (some (.builtin "BaseException.__getattribute__")))
    (ek_Bare : PySem.W.findIn K (.ref C_Bare) "__getattr__" = some none)
    (ed_Bare : PySem.W.hasDictIn K C_Bare = true)
    (ea_Bare : PySem.W.findIn K (.ref C_Bare) "__class__" = some (some (.builtin "object.__class__")))
    (em_Bare : PySem.W.mroIn K C_Bare (.type "object") = some true)
    (ed_FallError : PySem.W.hasDictIn K C_FallError = true)
    (en_o : PySem.W.specialIn K (.builtin "object.__class__") "__get__" = some (some (.builtin "getset_descriptor.__get__")))
    (et_o : PySem.W.takesIn K (.builtin "object.__class__") = some true)
    (pg_Store : PySem.W.plainGet K C_Store Str.empty = true)
    (hd_Store : PySem.W.hasDictIn K C_Store = true)
    (po_Store : PySem.W.plainOver K C_Store = true)
    (sa_Store : PySem.W.findIn K (.ref C_Store) "__setattr__" = some (some (.builtin "object.__setattr__")))
    (mk_Store : PySem.W.makesIn K C_Store = true)
    (kc_Store : PySem.W.keepIn K (.ref C_Store) = true)
    (nf_Store_base : PySem.W.findIn K (.ref C_Store) "base" = some none)
    (nf_Store_last : PySem.W.findIn K (.ref C_Store) "last" = some none)
    (nf_Store_many : PySem.W.findIn K (.ref C_Store) "many" = some none)
    (nf_Store_moves : PySem.W.findIn K (.ref C_Store) "moves" = some none)
    (nf_Store_buckets : PySem.W.findIn K (.ref C_Store) "buckets" = some none)
    (nn_ValueError : PySem.W.nsIn K mainGlobals "ValueError" = some none)
    (nn_bool : PySem.W.nsIn K mainGlobals "bool" = some none)
    (nn_int : PySem.W.nsIn K mainGlobals "int" = some none)
    (nn_isinstance : PySem.W.nsIn K mainGlobals "isinstance" = some none)
    (nn_len : PySem.W.nsIn K mainGlobals "len" = some none)
    (nn_list : PySem.W.nsIn K mainGlobals "list" = some none)
    (nn_min : PySem.W.nsIn K mainGlobals "min" = some none)
    (nn_range : PySem.W.nsIn K mainGlobals "range" = some none)
    (nn_str : PySem.W.nsIn K mainGlobals "str" = some none)
    (nn_tuple : PySem.W.nsIn K mainGlobals "tuple" = some none) :
    ∃ fd : FuncData, (∀ (s : Shared) (v : Value), BindsTo s fd ⟨[v], []⟩ [("_law_script", v)]) ∧ ∀ base : Heap, K.In base → base.Ns mainGlobals mg → FnOk l.prog w K mg base CX0 5 fa fd ["_law_script"] (sp_law K) := by
  have e : f_law = fa := (Value.ref.inj (Option.some.inj (hfa.symm.trans (PySem.W.mg_of X G a_law)))).symm
  subst e
  have F_need_base := fun_mk (st := s_need_base) l_need_base c_need_base k_need_base
  have b_need_base := F_need_base.binds (ps := ["base"]) fun _ _ _ _ _ _ us hl => match us, hl with | [_], _ => rfl
  have F_need_number := fun_mk (st := s_need_number) l_need_number c_need_number k_need_number
  have b_need_number := F_need_number.binds (ps := ["number"]) fun _ _ _ _ _ _ us hl => match us, hl with | [_], _ => rfl
  have F_parting := fun_mk (st := s_parting) l_parting c_parting k_parting
  have b_parting := F_parting.binds (ps := ["one", "other", "base"]) fun _ _ _ _ _ _ us hl => match us, hl with | [_, _, _], _ => rfl
  have F_Store_init := fun_mk (st := s_Store_init) l_Store_init c_Store_init k_Store_init
  have b_Store_init := F_Store_init.binds (ps := ["self", "base"]) fun _ _ _ _ _ _ us hl => match us, hl with | [_, _], _ => rfl
  have F_Store_room := fun_mk (st := s_Store_room) l_Store_room c_Store_room k_Store_room
  have b_Store_room := F_Store_room.binds (ps := ["self", "place"]) fun _ _ _ _ _ _ us hl => match us, hl with | [_, _], _ => rfl
  have F_Store_put := fun_mk (st := s_Store_put) l_Store_put c_Store_put k_Store_put
  have b_Store_put := F_Store_put.binds (ps := ["self", "number", "name"]) fun _ _ _ _ _ _ us hl => match us, hl with | [_, _, _], _ => rfl
  have F_Store_lowest := fun_mk (st := s_Store_lowest) l_Store_lowest c_Store_lowest k_Store_lowest
  have b_Store_lowest := F_Store_lowest.binds (ps := ["self"]) fun _ _ _ _ _ _ us hl => match us, hl with | [_], _ => rfl
  have F_Store_fall := fun_mk (st := s_Store_fall) l_Store_fall c_Store_fall k_Store_fall
  have b_Store_fall := F_Store_fall.binds (ps := ["self", "place"]) fun _ _ _ _ _ _ us hl => match us, hl with | [_, _], _ => rfl
  have F_Store_take := fun_mk (st := s_Store_take) l_Store_take c_Store_take k_Store_take
  have b_Store_take := F_Store_take.binds (ps := ["self"]) fun _ _ _ _ _ _ us hl => match us, hl with | [_], _ => rfl
  have F_Store_least := fun_mk (st := s_Store_least) l_Store_least c_Store_least k_Store_least
  have b_Store_least := F_Store_least.binds (ps := ["self"]) fun _ _ _ _ _ _ us hl => match us, hl with | [_], _ => rfl
  have F_Store_rows := fun_mk (st := s_Store_rows) l_Store_rows c_Store_rows k_Store_rows
  have b_Store_rows := F_Store_rows.binds (ps := ["self"]) fun _ _ _ _ _ _ us hl => match us, hl with | [_], _ => rfl
  have F_l_cell_at := fun_mk (st := s_l_cell_at) l_l_cell_at c_l_cell_at k_l_cell_at
  have b_l_cell_at := F_l_cell_at.binds (ps := ["_law_script", "_law_k"]) fun _ _ _ _ _ _ us hl => match us, hl with | [_, _], _ => rfl
  have F_l_whole := fun_mk (st := s_l_whole) l_l_whole c_l_whole k_l_whole
  have b_l_whole := F_l_whole.binds (ps := ["_law_found"]) fun _ _ _ _ _ _ us hl => match us, hl with | [_], _ => rfl
  have F_l_number_by := fun_mk (st := s_l_number_by) l_l_number_by c_l_number_by k_l_number_by
  have b_l_number_by := F_l_number_by.binds (ps := ["_law_cell", "_law_way"]) fun _ _ _ _ _ _ us hl => match us, hl with | [_, _], _ => rfl
  have F_l_first := fun_mk (st := s_l_first) l_l_first c_l_first k_l_first
  have b_l_first := F_l_first.binds (ps := ["_law_things"]) fun _ _ _ _ _ _ us hl => match us, hl with | [_], _ => rfl
  have F_l_words := fun_mk (st := s_l_words) l_l_words c_l_words k_l_words
  have b_l_words := F_l_words.binds (ps := ["_law_e"]) fun _ _ _ _ _ _ us hl => match us, hl with | [_], _ => rfl
  have F_l_bare := fun_mk (st := s_l_bare) l_l_bare c_l_bare k_l_bare
  have b_l_bare := F_l_bare.binds (ps := ["_law_store"]) fun _ _ _ _ _ _ us hl => match us, hl with | [_], _ => rfl
  have F_l_told := fun_mk (st := s_l_told) l_l_told c_l_told k_l_told
  have b_l_told := F_l_told.binds (ps := ["_law_store", "_law_number", "_law_name"]) fun _ _ _ _ _ _ us hl => match us, hl with | [_, _, _], _ => rfl
  have F_law := fun_mk (st := s_law) l_law c_law k_law
  have b_law := F_law.binds (ps := ["_law_script"]) fun _ _ _ _ _ _ us hl => match us, hl with | [_], _ => rfl
  have T : Txt K mg { f_need_base := f_need_base, d_need_base := PySem.W.fnOf "need_base" "need_base" (defArgs s_need_base) (defBody s_need_base) (defScope s_need_base) .none kV_need_base dc_need_base pm_need_base an_need_base cd_need_base ct_need_base, f_need_number := f_need_number, d_need_number := PySem.W.fnOf "need_number" "need_number" (defArgs s_need_number) (defBody s_need_number) (defScope s_need_number) .none kV_need_number dc_need_number pm_need_number an_need_number cd_need_number ct_need_number, f_parting := f_parting, d_parting := PySem.W.fnOf "parting" "parting" (defArgs s_parting) (defBody s_parting) (defScope s_parting) .none kV_parting dc_parting pm_parting an_parting cd_parting ct_parting, f_Store_init := f_Store_init, d_Store_init := PySem.W.fnOf "__init__" "Store.__init__" (defArgs s_Store_init) (defBody s_Store_init) (defScope s_Store_init) .none kV_Store_init dc_Store_init pm_Store_init an_Store_init cd_Store_init ct_Store_init, f_Store_room := f_Store_room, d_Store_room := PySem.W.fnOf "room" "Store.room" (defArgs s_Store_room) (defBody s_Store_room) (defScope s_Store_room) .none kV_Store_room dc_Store_room pm_Store_room an_Store_room cd_Store_room ct_Store_room, f_Store_put := f_Store_put, d_Store_put := PySem.W.fnOf "put" "Store.put" (defArgs s_Store_put) (defBody s_Store_put) (defScope s_Store_put) .none kV_Store_put dc_Store_put pm_Store_put an_Store_put cd_Store_put ct_Store_put, f_Store_lowest := f_Store_lowest, d_Store_lowest := PySem.W.fnOf "lowest" "Store.lowest" (defArgs s_Store_lowest) (defBody s_Store_lowest) (defScope s_Store_lowest) .none kV_Store_lowest dc_Store_lowest pm_Store_lowest an_Store_lowest cd_Store_lowest ct_Store_lowest, f_Store_fall := f_Store_fall, d_Store_fall := PySem.W.fnOf "fall" "Store.fall" (defArgs s_Store_fall) (defBody s_Store_fall) (defScope s_Store_fall) .none kV_Store_fall dc_Store_fall pm_Store_fall an_Store_fall cd_Store_fall ct_Store_fall, f_Store_take := f_Store_take, d_Store_take := PySem.W.fnOf "take" "Store.take" (defArgs s_Store_take) (defBody s_Store_take) (defScope s_Store_take) .none kV_Store_take dc_Store_take pm_Store_take an_Store_take cd_Store_take ct_Store_take, f_Store_least := f_Store_least, d_Store_least := PySem.W.fnOf "least" "Store.least" (defArgs s_Store_least) (defBody s_Store_least) (defScope s_Store_least) .none kV_Store_least dc_Store_least pm_Store_least an_Store_least cd_Store_least ct_Store_least, f_Store_rows := f_Store_rows, d_Store_rows := PySem.W.fnOf "rows" "Store.rows" (defArgs s_Store_rows) (defBody s_Store_rows) (defScope s_Store_rows) .none kV_Store_rows dc_Store_rows pm_Store_rows an_Store_rows cd_Store_rows ct_Store_rows, f_l_cell_at := f_l_cell_at, d_l_cell_at := PySem.W.fnOf "_law_cell_at" "_law_cell_at" (defArgs s_l_cell_at) (defBody s_l_cell_at) (defScope s_l_cell_at) .none kV_l_cell_at dc_l_cell_at pm_l_cell_at an_l_cell_at cd_l_cell_at ct_l_cell_at, f_l_whole := f_l_whole, d_l_whole := PySem.W.fnOf "_law_whole" "_law_whole" (defArgs s_l_whole) (defBody s_l_whole) (defScope s_l_whole) .none kV_l_whole dc_l_whole pm_l_whole an_l_whole cd_l_whole ct_l_whole, f_l_number_by := f_l_number_by, d_l_number_by := PySem.W.fnOf "_law_number_by" "_law_number_by" (defArgs s_l_number_by) (defBody s_l_number_by) (defScope s_l_number_by) .none kV_l_number_by dc_l_number_by pm_l_number_by an_l_number_by cd_l_number_by ct_l_number_by, f_l_first := f_l_first, d_l_first := PySem.W.fnOf "_law_first" "_law_first" (defArgs s_l_first) (defBody s_l_first) (defScope s_l_first) .none kV_l_first dc_l_first pm_l_first an_l_first cd_l_first ct_l_first, f_l_words := f_l_words, d_l_words := PySem.W.fnOf "_law_words" "_law_words" (defArgs s_l_words) (defBody s_l_words) (defScope s_l_words) .none kV_l_words dc_l_words pm_l_words an_l_words cd_l_words ct_l_words, f_l_bare := f_l_bare, d_l_bare := PySem.W.fnOf "_law_bare" "_law_bare" (defArgs s_l_bare) (defBody s_l_bare) (defScope s_l_bare) .none kV_l_bare dc_l_bare pm_l_bare an_l_bare cd_l_bare ct_l_bare, f_l_told := f_l_told, d_l_told := PySem.W.fnOf "_law_told" "_law_told" (defArgs s_l_told) (defBody s_l_told) (defScope s_l_told) .none kV_l_told dc_l_told pm_l_told an_l_told cd_l_told ct_l_told, f_law := f_law, d_law := PySem.W.fnOf "law" "law" (defArgs s_law) (defBody s_law) (defScope s_law) .none kV_law dc_law pm_law an_law cd_law ct_law, C_FallError := C_FallError, C_NoBase := C_NoBase, C_NoNumber := C_NoNumber, C_Late := C_Late, C_Bare := C_Bare, C_Store := C_Store } := { F_need_base := F_need_base, b_need_base := b_need_base, m_need_base := PySem.W.mg_of X G a_need_base, F_need_number := F_need_number, b_need_number := b_need_number, m_need_number := PySem.W.mg_of X G a_need_number, F_parting := F_parting, b_parting := b_parting, m_parting := PySem.W.mg_of X G a_parting, F_Store_init := F_Store_init, b_Store_init := b_Store_init, F_Store_room := F_Store_room, b_Store_room := b_Store_room, M_Store_room := ⟨a_Store_room, i_Store_room, k_Store_room⟩, F_Store_put := F_Store_put, b_Store_put := b_Store_put, M_Store_put := ⟨a_Store_put, i_Store_put, k_Store_put⟩, F_Store_lowest := F_Store_lowest, b_Store_lowest := b_Store_lowest, M_Store_lowest := ⟨a_Store_lowest, i_Store_lowest, k_Store_lowest⟩, F_Store_fall := F_Store_fall, b_Store_fall := b_Store_fall, M_Store_fall := ⟨a_Store_fall, i_Store_fall, k_Store_fall⟩, F_Store_take := F_Store_take, b_Store_take := b_Store_take, M_Store_take := ⟨a_Store_take, i_Store_take, k_Store_take⟩, F_Store_least := F_Store_least, b_Store_least := b_Store_least, M_Store_least := ⟨a_Store_least, i_Store_least, k_Store_least⟩, F_Store_rows := F_Store_rows, b_Store_rows := b_Store_rows, M_Store_rows := ⟨a_Store_rows, i_Store_rows, k_Store_rows⟩, F_l_cell_at := F_l_cell_at, b_l_cell_at := b_l_cell_at, m_l_cell_at := PySem.W.mg_of X G a_l_cell_at, F_l_whole := F_l_whole, b_l_whole := b_l_whole, m_l_whole := PySem.W.mg_of X G a_l_whole, F_l_number_by := F_l_number_by, b_l_number_by := b_l_number_by, m_l_number_by := PySem.W.mg_of X G a_l_number_by, F_l_first := F_l_first, b_l_first := b_l_first, m_l_first := PySem.W.mg_of X G a_l_first, F_l_words := F_l_words, b_l_words := b_l_words, m_l_words := PySem.W.mg_of X G a_l_words, F_l_bare := F_l_bare, b_l_bare := b_l_bare, m_l_bare := PySem.W.mg_of X G a_l_bare, F_l_told := F_l_told, b_l_told := b_l_told, m_l_told := PySem.W.mg_of X G a_l_told, F_law := F_law, b_law := b_law, m_law := PySem.W.mg_of X G a_law, g_FallError := PySem.W.mg_of X G ac_FallError, x_FallError := x_FallError, k_FallError := k_FallError, xb_FallError := xb_FallError, xt_FallError := xt_FallError, g_NoBase := PySem.W.mg_of X G ac_NoBase, x_NoBase := x_NoBase, k_NoBase := k_NoBase, xb_NoBase := xb_NoBase, xt_NoBase := xt_NoBase, g_NoNumber := PySem.W.mg_of X G ac_NoNumber, x_NoNumber := x_NoNumber, k_NoNumber := k_NoNumber, xb_NoNumber := xb_NoNumber, xt_NoNumber := xt_NoNumber, g_Late := PySem.W.mg_of X G ac_Late, x_Late := x_Late, k_Late := k_Late, xb_Late := xb_Late, xt_Late := xt_Late, g_Bare := PySem.W.mg_of X G ac_Bare, x_Bare := x_Bare, k_Bare := k_Bare, xb_Bare := xb_Bare, xt_Bare := xt_Bare, q_NoBase_NoBase := q_NoBase_NoBase, q_NoBase_NoNumber := q_NoBase_NoNumber, q_NoBase_Late := q_NoBase_Late, q_NoBase_Bare := q_NoBase_Bare, q_NoBase_V := q_NoBase_V, e_NoBase := e_NoBase, eg_NoBase := eg_NoBase, ek_NoBase := ek_NoBase, ed_NoBase := ed_NoBase, ea_NoBase := ea_NoBase, em_NoBase := em_NoBase, q_NoNumber_NoBase := q_NoNumber_NoBase, q_NoNumber_NoNumber := q_NoNumber_NoNumber, q_NoNumber_Late := q_NoNumber_Late, q_NoNumber_Bare := q_NoNumber_Bare, q_NoNumber_V := q_NoNumber_V, e_NoNumber := e_NoNumber, eg_NoNumber := eg_NoNumber, ek_NoNumber := ek_NoNumber, ed_NoNumber := ed_NoNumber, ea_NoNumber := ea_NoNumber, em_NoNumber := em_NoNumber, q_Late_NoBase := q_Late_NoBase, q_Late_NoNumber := q_Late_NoNumber, q_Late_Late := q_Late_Late, q_Late_Bare := q_Late_Bare, q_Late_V := q_Late_V, e_Late := e_Late, eg_Late := eg_Late, ek_Late := ek_Late, ed_Late := ed_Late, ea_Late := ea_Late, em_Late := em_Late, q_Bare_NoBase := q_Bare_NoBase, q_Bare_NoNumber := q_Bare_NoNumber, q_Bare_Late := q_Bare_Late, q_Bare_Bare := q_Bare_Bare, q_Bare_V := q_Bare_V, e_Bare := e_Bare, eg_Bare := eg_Bare, ek_Bare := ek_Bare, ed_Bare := ed_Bare, ea_Bare := ea_Bare, em_Bare := em_Bare, ed_FallError := ed_FallError, en_o := en_o, et_o := et_o, nf_Store_base := nf_Store_base, nf_Store_last := nf_Store_last, nf_Store_many := nf_Store_many, nf_Store_moves := nf_Store_moves, nf_Store_buckets := nf_Store_buckets, g_Store := PySem.W.mg_of X G ac_Store, cl_Store := ⟨pg_Store, hd_Store, po_Store, sa_Store⟩, M_Store := ⟨mk_Store, a_Store_init, i_Store_init, kc_Store⟩, n_ValueError := PySem.W.mg_none_of X G nn_ValueError, n_bool := PySem.W.mg_none_of X G nn_bool, n_int := PySem.W.mg_none_of X G nn_int, n_isinstance := PySem.W.mg_none_of X G nn_isinstance, n_len := PySem.W.mg_none_of X G nn_len, n_list := PySem.W.mg_none_of X G nn_list, n_min := PySem.W.mg_none_of X G nn_min, n_range := PySem.W.mg_none_of X G nn_range, n_str := PySem.W.mg_none_of X G nn_str, n_tuple := PySem.W.mg_none_of X G nn_tuple }
  exact ⟨_, fun s v => .of_eq rfl, fun base _ _ => ok_law T⟩
end Fall
open PySem PySem.W PyProof.Rows
set_option maxRecDepth 100000 in
set_option maxHeartbeats 0 in
theorem PySem.Challenge.cw_bucketfall_k07_the_least_told_holds : PySem.Challenge.rw_bucketfall_k07_the_least_told.Holds := by
  w_on; o_law; k_head; (case hw => w_witness2)
  k_fill
  refine L2.walk_of (l := PySem.Challenge.rw_bucketfall_k07_the_least_told) (n := 63) (k := 5) (x := "_law_script") (CX := fun _ => L2.CX0) (sp := fun w => Fall.sp_law _) rfl (by decide) rfl ⟨rfl, by decide, by decide⟩ (fun w h Y => PySem.W.kIn_of Y) ?F (fun _ _ a ns hl _ hS => ⟨a, ns, rfl, hS, hl, fun _ => rfl⟩) (fun _ _ _ _ _ h => h)
  case F =>
    intro w mg fa h KX G hmg
    refine' Fall.all_mk KX G hmg ?ac_FallError ?ac_NoBase ?ac_NoNumber ?ac_Late ?ac_Bare ?ac_Store ?a_need_base ?l_need_base ?c_need_base ?k_need_base ?a_need_number ?l_need_number ?c_need_number ?k_need_number ?a_parting ?l_parting ?c_parting ?k_parting ?a_Store_init ?i_Store_init ?l_Store_init ?c_Store_init ?k_Store_init ?a_Store_room ?i_Store_room ?l_Store_room ?c_Store_room ?k_Store_room ?a_Store_put ?i_Store_put ?l_Store_put ?c_Store_put ?k_Store_put ?a_Store_lowest ?i_Store_lowest ?l_Store_lowest ?c_Store_lowest ?k_Store_lowest ?a_Store_fall ?i_Store_fall ?l_Store_fall ?c_Store_fall ?k_Store_fall ?a_Store_take ?i_Store_take ?l_Store_take ?c_Store_take ?k_Store_take ?a_Store_least ?i_Store_least ?l_Store_least ?c_Store_least ?k_Store_least ?a_Store_rows ?i_Store_rows ?l_Store_rows ?c_Store_rows ?k_Store_rows ?a_l_cell_at ?l_l_cell_at ?c_l_cell_at ?k_l_cell_at ?a_l_whole ?l_l_whole ?c_l_whole ?k_l_whole ?a_l_number_by ?l_l_number_by ?c_l_number_by ?k_l_number_by ?a_l_first ?l_l_first ?c_l_first ?k_l_first ?a_l_words ?l_l_words ?c_l_words ?k_l_words ?a_l_bare ?l_l_bare ?c_l_bare ?k_l_bare ?a_l_told ?l_l_told ?c_l_told ?k_l_told ?a_law ?l_law ?c_law ?k_law ?x_FallError ?k_FallError ?xb_FallError ?xt_FallError ?x_NoBase ?k_NoBase ?xb_NoBase ?xt_NoBase ?x_NoNumber ?k_NoNumber ?xb_NoNumber ?xt_NoNumber ?x_Late ?k_Late ?xb_Late ?xt_Late ?x_Bare ?k_Bare ?xb_Bare ?xt_Bare ?q_NoBase_NoBase ?q_NoBase_NoNumber ?q_NoBase_Late ?q_NoBase_Bare ?q_NoBase_V ?e_NoBase ?eg_NoBase ?ek_NoBase ?ed_NoBase ?ea_NoBase ?em_NoBase ?q_NoNumber_NoBase ?q_NoNumber_NoNumber ?q_NoNumber_Late ?q_NoNumber_Bare ?q_NoNumber_V ?e_NoNumber ?eg_NoNumber ?ek_NoNumber ?ed_NoNumber ?ea_NoNumber ?em_NoNumber ?q_Late_NoBase ?q_Late_NoNumber ?q_Late_Late ?q_Late_Bare ?q_Late_V ?e_Late ?eg_Late ?ek_Late ?ed_Late ?ea_Late ?em_Late ?q_Bare_NoBase ?q_Bare_NoNumber ?q_Bare_Late ?q_Bare_Bare ?q_Bare_V ?e_Bare ?eg_Bare ?ek_Bare ?ed_Bare ?ea_Bare ?em_Bare ?ed_FallError ?en_o ?et_o ?pg_Store ?hd_Store ?po_Store ?sa_Store ?mk_Store ?kc_Store ?nf_Store_base ?nf_Store_last ?nf_Store_many ?nf_Store_moves ?nf_Store_buckets ?nn_ValueError ?nn_bool ?nn_int ?nn_isinstance ?nn_len ?nn_list ?nn_min ?nn_range ?nn_str ?nn_tuple
    (case ac_FallError => k_is)
    (case ac_NoBase => k_is)
    (case ac_NoNumber => k_is)
    (case ac_Late => k_is)
    (case ac_Bare => k_is)
    (case ac_Store => k_is)
    (case a_need_base => k_is)
    (case l_need_base => k_is)
    (case c_need_base => k_is)
    (case k_need_base => k_is)
    (case a_need_number => k_is)
    (case l_need_number => k_is)
    (case c_need_number => k_is)
    (case k_need_number => k_is)
    (case a_parting => k_is)
    (case l_parting => k_is)
    (case c_parting => k_is)
    (case k_parting => k_is)
    (case a_Store_init => k_is)
    (case i_Store_init => k_is)
    (case l_Store_init => k_is)
    (case c_Store_init => k_is)
    (case k_Store_init => k_is)
    (case a_Store_room => k_is)
    (case i_Store_room => k_is)
    (case l_Store_room => k_is)
    (case c_Store_room => k_is)
    (case k_Store_room => k_is)
    (case a_Store_put => k_is)
    (case i_Store_put => k_is)
    (case l_Store_put => k_is)
    (case c_Store_put => k_is)
    (case k_Store_put => k_is)
    (case a_Store_lowest => k_is)
    (case i_Store_lowest => k_is)
    (case l_Store_lowest => k_is)
    (case c_Store_lowest => k_is)
    (case k_Store_lowest => k_is)
    (case a_Store_fall => k_is)
    (case i_Store_fall => k_is)
    (case l_Store_fall => k_is)
    (case c_Store_fall => k_is)
    (case k_Store_fall => k_is)
    (case a_Store_take => k_is)
    (case i_Store_take => k_is)
    (case l_Store_take => k_is)
    (case c_Store_take => k_is)
    (case k_Store_take => k_is)
    (case a_Store_least => k_is)
    (case i_Store_least => k_is)
    (case l_Store_least => k_is)
    (case c_Store_least => k_is)
    (case k_Store_least => k_is)
    (case a_Store_rows => k_is)
    (case i_Store_rows => k_is)
    (case l_Store_rows => k_is)
    (case c_Store_rows => k_is)
    (case k_Store_rows => k_is)
    (case a_l_cell_at => k_is)
    (case l_l_cell_at => k_is)
    (case c_l_cell_at => k_is)
    (case k_l_cell_at => k_is)
    (case a_l_whole => k_is)
    (case l_l_whole => k_is)
    (case c_l_whole => k_is)
    (case k_l_whole => k_is)
    (case a_l_number_by => k_is)
    (case l_l_number_by => k_is)
    (case c_l_number_by => k_is)
    (case k_l_number_by => k_is)
    (case a_l_first => k_is)
    (case l_l_first => k_is)
    (case c_l_first => k_is)
    (case k_l_first => k_is)
    (case a_l_words => k_is)
    (case l_l_words => k_is)
    (case c_l_words => k_is)
    (case k_l_words => k_is)
    (case a_l_bare => k_is)
    (case l_l_bare => k_is)
    (case c_l_bare => k_is)
    (case k_l_bare => k_is)
    (case a_l_told => k_is)
    (case l_l_told => k_is)
    (case c_l_told => k_is)
    (case k_l_told => k_is)
    (case a_law => k_is)
    (case l_law => k_is)
    (case c_law => k_is)
    (case k_law => k_is)
    (case x_FallError => k_exc)
    (case k_FallError => k_is)
    (case xb_FallError => k_is)
    (case xt_FallError => k_is)
    (case x_NoBase => k_exc)
    (case k_NoBase => k_is)
    (case xb_NoBase => k_is)
    (case xt_NoBase => k_is)
    (case x_NoNumber => k_exc)
    (case k_NoNumber => k_is)
    (case xb_NoNumber => k_is)
    (case xt_NoNumber => k_is)
    (case x_Late => k_exc)
    (case k_Late => k_is)
    (case xb_Late => k_is)
    (case xt_Late => k_is)
    (case x_Bare => k_exc)
    (case k_Bare => k_is)
    (case xb_Bare => k_is)
    (case xt_Bare => k_is)
    (case q_NoBase_NoBase => k_is)
    (case q_NoBase_NoNumber => k_is)
    (case q_NoBase_Late => k_is)
    (case q_NoBase_Bare => k_is)
    (case q_NoBase_V => k_is)
    (case e_NoBase => k_is)
    (case eg_NoBase => k_is)
    (case ek_NoBase => k_is)
    (case ed_NoBase => k_is)
    (case ea_NoBase => k_is)
    (case em_NoBase => k_is)
    (case q_NoNumber_NoBase => k_is)
    (case q_NoNumber_NoNumber => k_is)
    (case q_NoNumber_Late => k_is)
    (case q_NoNumber_Bare => k_is)
    (case q_NoNumber_V => k_is)
    (case e_NoNumber => k_is)
    (case eg_NoNumber => k_is)
    (case ek_NoNumber => k_is)
    (case ed_NoNumber => k_is)
    (case ea_NoNumber => k_is)
    (case em_NoNumber => k_is)
    (case q_Late_NoBase => k_is)
    (case q_Late_NoNumber => k_is)
    (case q_Late_Late => k_is)
    (case q_Late_Bare => k_is)
    (case q_Late_V => k_is)
    (case e_Late => k_is)
    (case eg_Late => k_is)
    (case ek_Late => k_is)
    (case ed_Late => k_is)
    (case ea_Late => k_is)
    (case em_Late => k_is)
    (case q_Bare_NoBase => k_is)
    (case q_Bare_NoNumber => k_is)
    (case q_Bare_Late => k_is)
    (case q_Bare_Bare => k_is)
    (case q_Bare_V => k_is)
    (case e_Bare => k_is)
    (case eg_Bare => k_is)
    (case ek_Bare => k_is)
    (case ed_Bare => k_is)
    (case ea_Bare => k_is)
    (case em_Bare => k_is)
    (case ed_FallError => k_is)
    (case en_o => k_is)
    (case et_o => k_is)
    (case pg_Store => k_is)
    (case hd_Store => k_is)
    (case po_Store => k_is)
    (case sa_Store => k_is)
    (case mk_Store => k_is)
    (case kc_Store => k_is)
    (case nf_Store_base => k_is)
    (case nf_Store_last => k_is)
    (case nf_Store_many => k_is)
    (case nf_Store_moves => k_is)
    (case nf_Store_buckets => k_is)
    (case nn_ValueError => k_is)
    (case nn_bool => k_is)
    (case nn_int => k_is)
    (case nn_isinstance => k_is)
    (case nn_len => k_is)
    (case nn_list => k_is)
    (case nn_min => k_is)
    (case nn_range => k_is)
    (case nn_str => k_is)
    (case nn_tuple => k_is)
#print axioms PySem.Challenge.cw_bucketfall_k07_the_least_told_holds
