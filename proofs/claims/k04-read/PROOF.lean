import PyProof.Rows.All
import Wide.All
import OpenK.AllK
import Wide.FinOn
import HandS.ForExc
import HandS.Wide
import HandS.IsInst
import HandS.Codes
import HandS.Text
import HandS.Walk
import HandS.Comp
import HandS.ExcCtx
import HandS.SortKw
import KE.DatumOrd
import HandS.HotCalls
import HandS.ExcIs
import HandS.ExcOwn
import PySem.Challenge.RW_bucketfall_k04_read
set_option Elab.async false
set_option linter.all false
set_option maxRecDepth 100000
set_option maxHeartbeats 4000000
namespace Fall
/-! ### how often a number is divided until nothing is left -/
def flen (b n : Nat) : Nat := if h : 0 < n ∧ 2 ≤ b then flen b (n / b) + 1 else 0
termination_by n
decreasing_by exact Nat.div_lt_self h.1 h.2
theorem flen_zero (b : Nat) : flen b 0 = 0 := by
  rw [flen]
  simp
theorem flen_pos {b n : Nat} (h : 0 < n) (hb : 2 ≤ b) : flen b n = flen b (n / b) + 1 := by
  rw [flen, dif_pos ⟨h, hb⟩]
theorem cast_div (n b : Nat) : ((n : Int) / (b : Int)) = ((n / b : Nat) : Int) := by
  exact (Int.natCast_ediv n b).symm
theorem cast_mod (n b : Nat) : ((n : Int) % (b : Int)) = ((n % b : Nat) : Int) := by
  exact (Int.natCast_emod n b).symm
/-! ### where two numbers part -/
theorem part_dec {b x y : Nat} (h : x ≠ y) (hb : 2 ≤ b) : x / b + y / b < x + y := by
  have h1 : x / b ≤ x := Nat.div_le_self _ _
  have h2 : y / b ≤ y := Nat.div_le_self _ _
  rcases Nat.lt_or_ge 0 x with hx | hx
  · have := Nat.div_lt_self hx hb
    omega
  · have hy : 0 < y := by omega
    have := Nat.div_lt_self hy hb
    omega
def part (b x y : Nat) : Nat := if h : x ≠ y ∧ 2 ≤ b then part b (x / b) (y / b) + 1 else 0
termination_by x + y
decreasing_by exact part_dec h.1 h.2
theorem part_eq (b x : Nat) : part b x x = 0 := by
  rw [part, dif_neg (fun h => h.1 rfl)]
theorem part_ne {b x y : Nat} (h : x ≠ y) (hb : 2 ≤ b) : part b x y = part b (x / b) (y / b) + 1 := by
  rw [part, dif_pos ⟨h, hb⟩]
theorem part_comm (b : Nat) (hb : 2 ≤ b) : ∀ (s x y : Nat), x + y ≤ s → part b x y = part b y x
  | s, x, y, hs => by
    by_cases h : x = y
    · subst h
      rfl
    · rw [part_ne h hb, part_ne (fun e => h e.symm) hb]
      have hd := part_dec h hb
      match s, hs with
      | 0, hs => omega
      | s + 1, hs => rw [part_comm b hb s (x / b) (y / b) (by omega)]
theorem div_mod_inj {b x y : Nat} (h1 : x / b = y / b) (h2 : x % b = y % b) : x = y := by
  rw [← Nat.div_add_mod x b, ← Nat.div_add_mod y b, h1, h2]
/-- what the loop over figures comes to, from the place p and the last found f on -/
def pfin (b o t p f : Nat) : Nat := if o = t then f else p + part b o t
theorem pfin_ne {b o t p f : Nat} (hb : 2 ≤ b) (h : o % b ≠ t % b) : pfin b (o / b) (t / b) (p + 1) (p + 1) = pfin b o t p f := by
  have hne : o ≠ t := fun e => h (by rw [e])
  unfold pfin
  rw [if_neg hne, part_ne hne hb]
  by_cases e : o / b = t / b
  · rw [if_pos e, e, part_eq]
  · rw [if_neg e]
    omega
theorem pfin_eq {b o t p f : Nat} (hb : 2 ≤ b) (h : o % b = t % b) : pfin b (o / b) (t / b) (p + 1) f = pfin b o t p f := by
  unfold pfin
  by_cases e : o = t
  · subst e
    rw [if_pos rfl, if_pos rfl]
  · have e2 : o / b ≠ t / b := fun q => e (div_mod_inj q h)
    rw [if_neg e, if_neg e2, part_ne e hb]
    omega
theorem pfin_start (b x y : Nat) : pfin b x y 0 0 = part b x y := by
  unfold pfin
  by_cases e : x = y
  · subst e
    rw [if_pos rfl, part_eq]
  · rw [if_neg e]
    omega
/-! ### things, buckets, the store (plain) -/
structure Th (α : Type) where
  n : Nat
  x : α
  c : Nat
structure Sto (α : Type) where
  base : Nat
  last : Nat
  many : Nat
  moves : Nat
  bk : List (List (Th α))
section
variable {α : Type}
abbrev Bks (α : Type) := List (List (Th α))
/-- the buckets as far as k -/
def ext (bk : Bks α) (k : Nat) : Bks α := bk ++ List.replicate (k + 1 - bk.length) []
def addAt (bk : Bks α) (k : Nat) (h : Th α) : Bks α := bk.set k (bk.getD k [] ++ [h])
def tot : Bks α → Nat
  | [] => 0
  | hs :: r => hs.length + tot r
def low : Bks α → Nat
  | [] => 0
  | hs :: r => if hs.isEmpty then low r + 1 else 0
def minN : List (Th α) → Nat
  | [] => 0
  | [h] => h.n
  | h :: h2 :: r => if h.n ≤ minN (h2 :: r) then h.n else minN (h2 :: r)
def bump (h : Th α) : Th α := ⟨h.n, h.x, h.c + 1⟩
/-- one thing of the bucket that falls -/
def fstep (b place last : Nat) (s : Bks α × List (Th α) × Nat) (h : Th α) : Bks α × List (Th α) × Nat :=
  if part b h.n last < place then (addAt s.1 (part b h.n last) (bump h), s.2.1, s.2.2 + 1) else (s.1, s.2.1 ++ [h], s.2.2)
def Sto.put (S : Sto α) (n : Nat) (x : α) : Sto α :=
  { S with bk := addAt (ext S.bk (part S.base n S.last)) (part S.base n S.last) ⟨n, x, 0⟩, many := S.many + 1 }
def Sto.run (S : Sto α) (place : Nat) (hs : List (Th α)) : Bks α × List (Th α) × Nat := hs.foldl (fstep S.base place (minN (S.bk.getD place []))) (S.bk, [], S.moves)
def Sto.fall (S : Sto α) (place : Nat) : Sto α :=
  { S with last := minN (S.bk.getD place []), moves := (S.run place (S.bk.getD place [])).2.2, bk := (S.run place (S.bk.getD place [])).1.set place (S.run place (S.bk.getD place [])).2.1 }
/-- ahead of the taking -/
def Sto.pre (S : Sto α) : Sto α := if 0 < low S.bk then S.fall (low S.bk) else S
def Sto.take (S : Sto α) : Sto α := { S.pre with bk := S.pre.bk.set 0 ((S.pre.bk.getD 0 []).drop 1), many := S.pre.many - 1 }
/-- the first least thing of a list -/
def first : Th α → List (Th α) → Th α
  | f, [] => f
  | f, h :: r => if h.n < f.n then first h r else first f r
def rowsFrom : Nat → Bks α → List (Nat × Th α)
  | _, [] => []
  | i, hs :: r => hs.map (fun h => (i, h)) ++ rowsFrom (i + 1) r

/-! ### by places -/
theorem getD_lt {bk : Bks α} {j : Nat} {hs : List (Th α)} (h : bk[j]? = some hs) : bk.getD j [] = hs := by
  rw [List.getD_eq_getElem?_getD, h]
  rfl
theorem get_of {bk : Bks α} {j : Nat} (h : j < bk.length) : bk[j]? = some (bk.getD j []) := by
  rw [List.getD_eq_getElem?_getD, List.getElem?_eq_getElem h]
  rfl
theorem getD_ge {bk : Bks α} {j : Nat} (h : bk.length ≤ j) : bk.getD j [] = [] := by
  rw [List.getD_eq_getElem?_getD, List.getElem?_eq_none h]
  rfl
theorem ext_len (bk : Bks α) (k : Nat) : (ext bk k).length = if bk.length ≤ k then k + 1 else bk.length := by
  unfold ext
  rw [List.length_append, List.length_replicate]
  split <;> omega
theorem ext_lt (bk : Bks α) (k : Nat) : k < (ext bk k).length := by
  rw [ext_len]
  split <;> omega
theorem ext_getD (bk : Bks α) (k j : Nat) : (ext bk k).getD j [] = bk.getD j [] := by
  unfold ext
  rw [List.getD_eq_getElem?_getD, List.getD_eq_getElem?_getD]
  by_cases h : j < bk.length
  · rw [List.getElem?_append_left h]
  · rw [List.getElem?_append_right (by omega), List.getElem?_eq_none (l := bk) (by omega), List.getElem?_replicate]
    split <;> rfl
theorem ext_done {bk : Bks α} {k : Nat} (h : k < bk.length) : ext bk k = bk := by
  unfold ext
  rw [show k + 1 - bk.length = 0 by omega]
  simp
theorem set_getD (bk : Bks α) (k j : Nat) (l : List (Th α)) : (bk.set k l).getD j [] = if j = k ∧ k < bk.length then l else bk.getD j [] := by
  rw [List.getD_eq_getElem?_getD, List.getD_eq_getElem?_getD]
  by_cases h : j = k
  · subst h
    by_cases hk : j < bk.length
    · rw [if_pos ⟨rfl, hk⟩, List.getElem?_set_self hk]
      rfl
    · rw [if_neg (fun z => hk z.2), List.getElem?_eq_none (by rw [List.length_set]; omega), List.getElem?_eq_none (by omega)]
  · rw [if_neg (fun z => h z.1), List.getElem?_set_ne (fun z => h z.symm)]
theorem addAt_len (bk : Bks α) (k : Nat) (h : Th α) : (addAt bk k h).length = bk.length := by
  unfold addAt
  rw [List.length_set]
theorem addAt_getD {bk : Bks α} {k : Nat} (h : Th α) (hk : k < bk.length) (j : Nat) : (addAt bk k h).getD j [] = if j = k then bk.getD k [] ++ [h] else bk.getD j [] := by
  unfold addAt
  rw [set_getD]
  by_cases e : j = k
  · rw [if_pos ⟨e, hk⟩, if_pos e]
  · rw [if_neg (fun z => e z.1), if_neg e]
theorem tot_set : ∀ {bk : Bks α} {k : Nat} (l : List (Th α)), k < bk.length → tot (bk.set k l) + (bk.getD k []).length = tot bk + l.length
  | [], k, l, h => by simp at h
  | hs :: r, 0, l, h => by
    show l.length + tot r + hs.length = hs.length + tot r + l.length
    omega
  | hs :: r, k + 1, l, h => by
    have ih := tot_set (bk := r) (k := k) l (by simpa using h)
    show hs.length + tot (r.set k l) + (r.getD k []).length = hs.length + tot r + l.length
    omega
theorem tot_addAt {bk : Bks α} {k : Nat} (h : Th α) (hk : k < bk.length) : tot (addAt bk k h) = tot bk + 1 := by
  have e := tot_set (bk.getD k [] ++ [h]) hk
  rw [List.length_append] at e
  unfold addAt
  simp at e ⊢
  omega
theorem tot_app : ∀ (a b : Bks α), tot (a ++ b) = tot a + tot b
  | [], b => by simp [tot]
  | hs :: r, b => by
    show hs.length + tot (r ++ b) = hs.length + tot r + tot b
    rw [tot_app r b]
    omega
theorem tot_rep (m : Nat) : tot (List.replicate m ([] : List (Th α))) = 0 := by
  induction m with
  | zero => rfl
  | succ m ih =>
    rw [List.replicate_succ]
    show 0 + tot (List.replicate m []) = 0
    omega
theorem tot_ext (bk : Bks α) (k : Nat) : tot (ext bk k) = tot bk := by
  unfold ext
  rw [tot_app, tot_rep]
  omega
theorem tot_getD : ∀ (bk : Bks α) (j : Nat), (bk.getD j []).length ≤ tot bk
  | [], j => by simp
  | hs :: r, 0 => by
    show hs.length ≤ hs.length + tot r
    omega
  | hs :: r, j + 1 => by
    have := tot_getD r j
    show (r.getD j []).length ≤ hs.length + tot r
    omega
theorem low_spec : ∀ {bk : Bks α}, 0 < tot bk → low bk < bk.length ∧ bk.getD (low bk) [] ≠ [] ∧ ∀ j, j < low bk → bk.getD j [] = []
  | [], h => by simp [tot] at h
  | hs :: r, h => by
    cases hs with
    | cons a l =>
      have e : low ((a :: l) :: r) = 0 := rfl
      rw [e]
      refine ⟨by simp, by simp, fun j hj => by omega⟩
    | nil =>
      have h' : 0 < tot r := by
        have e : tot ([] :: r) = 0 + tot r := rfl
        omega
      obtain ⟨h1, h2, h3⟩ := low_spec h'
      have e : low ([] :: r) = low r + 1 := rfl
      rw [e]
      refine ⟨by simpa using h1, h2, fun j hj => ?_⟩
      match j with
      | 0 => rfl
      | j + 1 => exact h3 j (by omega)
theorem minN_spec : ∀ {hs : List (Th α)}, hs ≠ [] → (∃ h, h ∈ hs ∧ h.n = minN hs) ∧ ∀ h, h ∈ hs → minN hs ≤ h.n
  | [], h => absurd rfl h
  | [a], _ => ⟨⟨a, by simp, rfl⟩, fun h hm => by
    have e : h = a := by simpa using hm
    subst e
    exact Nat.le_refl _⟩
  | a :: b :: r, _ => by
    obtain ⟨⟨h, hm, e⟩, h2⟩ := minN_spec (hs := b :: r) (by simp)
    have e3 : minN (a :: b :: r) = if a.n ≤ minN (b :: r) then a.n else minN (b :: r) := rfl
    rw [e3]
    by_cases c : a.n ≤ minN (b :: r)
    · rw [if_pos c]
      refine ⟨⟨a, by simp, rfl⟩, fun y hy => ?_⟩
      rcases List.mem_cons.mp hy with rfl | hy
      · exact Nat.le_refl _
      · exact Nat.le_trans c (h2 y hy)
    · rw [if_neg c]
      refine ⟨⟨h, List.mem_cons_of_mem _ hm, e⟩, fun y hy => ?_⟩
      rcases List.mem_cons.mp hy with rfl | hy
      · omega
      · exact h2 y hy
theorem minN_unique {hs : List (Th α)} {m : Nat} (h1 : ∃ h, h ∈ hs ∧ h.n = m) (h2 : ∀ h, h ∈ hs → m ≤ h.n) : m = minN hs := by
  obtain ⟨h, hm, e⟩ := h1
  have hne : hs ≠ [] := fun z => by rw [z] at hm; cases hm
  obtain ⟨⟨y, hy, ey⟩, hle⟩ := minN_spec hne
  have a := hle h hm
  have b := h2 y hy
  omega

/-! ### where numbers part -/
theorem part_le {b : Nat} (hb : 2 ≤ b) : ∀ (k x y : Nat), x / b ^ k = y / b ^ k → part b x y ≤ k
  | 0, x, y, h => by
    rw [Nat.pow_zero, Nat.div_one, Nat.div_one] at h
    subst h
    rw [part_eq]
    exact Nat.le_refl _
  | k + 1, x, y, h => by
    by_cases e : x = y
    · subst e
      rw [part_eq]
      omega
    · rw [part_ne e hb]
      have := part_le hb k (x / b) (y / b) (by
        rw [Nat.div_div_eq_div_mul, Nat.div_div_eq_div_mul, ← Nat.pow_succ']
        exact h)
      omega
theorem part_same {b : Nat} (hb : 2 ≤ b) : ∀ (s x y : Nat), x + y ≤ s → x / b ^ part b x y = y / b ^ part b x y
  | s, x, y, hs => by
    by_cases e : x = y
    · subst e
      rfl
    · rw [part_ne e hb, Nat.pow_succ', ← Nat.div_div_eq_div_mul, ← Nat.div_div_eq_div_mul]
      have hd := part_dec e hb
      match s, hs with
      | 0, hs => omega
      | s + 1, hs => exact part_same hb s (x / b) (y / b) (by omega)
/-- parting at k or below: the same behind k divisions -/
theorem part_iff {b : Nat} (hb : 2 ≤ b) (k x y : Nat) : part b x y ≤ k ↔ x / b ^ k = y / b ^ k := by
  refine ⟨fun h => ?_, part_le hb k x y⟩
  have e := part_same hb _ x y (Nat.le_refl _)
  obtain ⟨d, rfl⟩ : ∃ d, k = part b x y + d := ⟨k - part b x y, by omega⟩
  rw [Nat.pow_add, ← Nat.div_div_eq_div_mul, ← Nat.div_div_eq_div_mul, e]
theorem part_zero {b : Nat} (hb : 2 ≤ b) {x y : Nat} (h : part b x y = 0) : x = y := by
  have e := (part_iff hb 0 x y).mp (by omega)
  simpa using e
theorem part_bits {b : Nat} (hb : 2 ≤ b) {k x y : Nat} (hx : x < 2 ^ k) (hy : y < 2 ^ k) : part b x y ≤ k := by
  have h1 : 2 ^ k ≤ b ^ k := Nat.pow_le_pow_left hb k
  refine part_le hb k x y ?_
  rw [Nat.div_eq_of_lt (by omega), Nat.div_eq_of_lt (by omega)]
/-- of two beyond the last one, the one that parts lower is less -/
theorem part_order {b l x y : Nat} (hb : 2 ≤ b) (hy : l ≤ y) (h : part b x l < part b y l) : x < y := by
  obtain ⟨k, hk1, hk2⟩ : ∃ k, part b x l ≤ k ∧ k + 1 = part b y l := ⟨part b y l - 1, by omega, by omega⟩
  have e1 := (part_iff hb k x l).mp hk1
  have e2 : ¬ y / b ^ k = l / b ^ k := fun z => by
    have := (part_iff hb k y l).mpr z
    omega
  have e3 : l / b ^ k ≤ y / b ^ k := Nat.div_le_div_right hy
  have e4 : x / b ^ k < y / b ^ k := by omega
  rcases Nat.lt_or_ge x y with z | z
  · exact z
  · have := Nat.div_le_div_right (c := b ^ k) z
    omega
/-- a number that parts higher keeps its place when the last one moves below -/
theorem part_keep {b l m z k : Nat} (hb : 2 ≤ b) (hm : part b m l ≤ k) (hz : k < part b z l) : part b z m = part b z l := by
  have go : ∀ j, k ≤ j → (part b z m ≤ j ↔ part b z l ≤ j) := fun j hj => by
    have e : m / b ^ j = l / b ^ j := (part_iff hb j m l).mp (by omega)
    rw [part_iff hb, part_iff hb, e]
  have a1 := (go (part b z l) (by omega)).mpr (Nat.le_refl _)
  have a2 : ¬ part b z m ≤ part b z l - 1 := fun q => by
    have := (go (part b z l - 1) (by omega)).mp q
    omega
  omega
theorem part_fall {b l m z k : Nat} (hb : 2 ≤ b) (hm : part b m l = k) (hz : part b z l = k) : part b z m ≤ k := by
  have e1 := (part_iff hb k m l).mp (by omega)
  have e2 := (part_iff hb k z l).mp (by omega)
  exact (part_iff hb k z m).mpr (by omega)
end
/-! ### what holds of a store (plain) -/
section
variable {α : Type}
structure Sto.Ok (S : Sto α) : Prop where
  b2 : 2 ≤ S.base
  b16 : S.base ≤ 16
  tot : S.many = tot S.bk
  pl : ∀ j h, h ∈ S.bk.getD j [] → part S.base h.n S.last = j ∧ S.last ≤ h.n
def Sto.new (b : Nat) : Sto α := ⟨b, 0, 0, 0, []⟩
theorem new_ok {b : Nat} (h2 : 2 ≤ b) (h16 : b ≤ 16) : (Sto.new b : Sto α).Ok := ⟨h2, h16, rfl, fun j h hm => by
  have e : (Sto.new b : Sto α).bk.getD j [] = [] := by
    show ([] : List (List (Th α))).getD j [] = []
    rw [List.getD_eq_getElem?_getD]
    rfl
  rw [e] at hm
  cases hm⟩
theorem put_getD (S : Sto α) (n : Nat) (x : α) (j : Nat) : (S.put n x).bk.getD j [] = if j = part S.base n S.last then S.bk.getD j [] ++ [⟨n, x, 0⟩] else S.bk.getD j [] := by
  show (addAt (ext S.bk _) _ _).getD j [] = _
  rw [addAt_getD _ (ext_lt _ _), ext_getD, ext_getD]
  by_cases e : j = part S.base n S.last
  · rw [if_pos e, if_pos e, e]
  · rw [if_neg e, if_neg e]
theorem put_ok {S : Sto α} (O : S.Ok) {n : Nat} (x : α) (h : S.last ≤ n) : (S.put n x).Ok := by
  refine ⟨O.b2, O.b16, ?_, fun j t ht => ?_⟩
  · show S.many + 1 = Fall.tot (addAt (ext S.bk _) _ _)
    rw [tot_addAt _ (ext_lt _ _), tot_ext, O.tot]
  · rw [put_getD] at ht
    by_cases e : j = part S.base n S.last
    · rw [if_pos e] at ht
      rcases List.mem_append.mp ht with z | z
      · exact O.pl j t z
      · have e2 : t = ⟨n, x, 0⟩ := by simpa using z
        subst e2
        exact ⟨e.symm, h⟩
    · rw [if_neg e] at ht
      exact O.pl j t ht

/-! ### the fall -/
structure Fell (b place last : Nat) (bk : Bks α) (mv : Nat) (hs : List (Th α)) (s : Bks α × List (Th α) × Nat) : Prop where
  len : s.1.length = bk.length
  lo : ∀ j, j < place → s.1.getD j [] = bk.getD j [] ++ (hs.filter fun h => part b h.n last = j).map bump
  hi : ∀ j, place ≤ j → s.1.getD j [] = bk.getD j []
  stay : s.2.1 = hs.filter fun h => ¬ part b h.n last < place
  mv : s.2.2 = mv + (hs.filter fun h => part b h.n last < place).length
  tot : Fall.tot s.1 + s.2.1.length = Fall.tot bk + hs.length
theorem fell_step {b place last mv : Nat} {bk : Bks α} {hs : List (Th α)} {s : Bks α × List (Th α) × Nat} (hp : place < bk.length) (F : Fell b place last bk mv hs s) (h : Th α) :
    Fell b place last bk mv (hs ++ [h]) (fstep b place last s h) := by
  obtain ⟨f1, f2, f3, f4, f5, f6⟩ := F
  unfold fstep
  by_cases c : part b h.n last < place
  · rw [if_pos c]
    have hk : part b h.n last < s.1.length := by omega
    refine ⟨by rw [addAt_len]; exact f1, fun j hj => ?_, fun j hj => ?_, ?_, ?_, ?_⟩
    · show (addAt s.1 _ _).getD j [] = _
      rw [addAt_getD _ hk, List.filter_append, List.map_append]
      by_cases e : j = part b h.n last
      · rw [if_pos e, ← e, f2 j hj, List.append_assoc]
        congr 2
        simp [e]
      · rw [if_neg e, f2 j hj]
        have e2 : decide (part b h.n last = j) = false := decide_eq_false (fun q => e q.symm)
        simp [e2]
    · show (addAt s.1 _ _).getD j [] = _
      rw [addAt_getD _ hk, if_neg (by omega)]
      exact f3 j hj
    · show s.2.1 = _
      rw [List.filter_append, f4]
      simp [c]
    · show s.2.2 + 1 = _
      rw [List.filter_append, f5]
      simp [c]
      omega
    · show Fall.tot (addAt s.1 _ _) + s.2.1.length = _
      rw [tot_addAt _ hk, List.length_append]
      simp
      omega
  · rw [if_neg c]
    refine ⟨f1, fun j hj => ?_, f3, ?_, ?_, ?_⟩
    · show s.1.getD j [] = _
      rw [f2 j hj, List.filter_append]
      have e2 : decide (part b h.n last = j) = false := decide_eq_false (fun q => by omega)
      simp [e2]
    · show s.2.1 ++ [h] = _
      have c2 : decide (¬ part b h.n last < place) = true := decide_eq_true c
      rw [List.filter_append, f4]
      have e3 : [h].filter (fun h => decide (¬ part b h.n last < place)) = [h] := List.filter_cons_of_pos c2
      rw [e3]
    · show s.2.2 = _
      rw [List.filter_append, f5]
      simp [c]
    · show Fall.tot s.1 + (s.2.1 ++ [h]).length = _
      rw [List.length_append, List.length_append]
      simp
      omega
theorem fell_all {b place last : Nat} {bk : Bks α} {mv : Nat} (hp : place < bk.length) : ∀ (hs gs : List (Th α)) (s : Bks α × List (Th α) × Nat), Fell b place last bk mv gs s →
    Fell b place last bk mv (gs ++ hs) (hs.foldl (fstep b place last) s)
  | [], gs, s, F => by simpa using F
  | h :: r, gs, s, F => by
    have := fell_all hp r (gs ++ [h]) _ (fell_step hp F h)
    simpa using this
theorem fell_start (b place last : Nat) (bk : Bks α) (mv : Nat) : Fell b place last bk mv [] (bk, [], mv) := ⟨rfl, fun j _ => by simp, fun _ _ => rfl, rfl, rfl, rfl⟩
theorem run_fell (S : Sto α) {place : Nat} (hp : place < S.bk.length) (hs : List (Th α)) : Fell S.base place (minN (S.bk.getD place [])) S.bk S.moves hs (S.run place hs) :=
  fell_all hp hs [] _ (fell_start _ _ _ _ _)
/-- the store behind the fall of its lowest bucket, by places -/
structure Fallen (S : Sto α) (place : Nat) : Prop where
  len : (S.fall place).bk.length = S.bk.length
  lo : ∀ j, j < place → (S.fall place).bk.getD j [] = ((S.bk.getD place []).filter fun h => part S.base h.n (S.fall place).last = j).map bump
  at_ : (S.fall place).bk.getD place [] = (S.bk.getD place []).filter fun h => part S.base h.n (S.fall place).last = place
  hi : ∀ j, place < j → (S.fall place).bk.getD j [] = S.bk.getD j []
  mn : (∃ h, h ∈ S.bk.getD place [] ∧ h.n = (S.fall place).last) ∧ ∀ h, h ∈ S.bk.getD place [] → (S.fall place).last ≤ h.n
  low_ : ∀ h, h ∈ S.bk.getD place [] → part S.base h.n (S.fall place).last ≤ place
  lp : part S.base (S.fall place).last S.last = place
  ll : S.last ≤ (S.fall place).last
  mv : (S.fall place).moves = S.moves + ((S.bk.getD place []).filter fun h => part S.base h.n (S.fall place).last < place).length
  tot : Fall.tot (S.fall place).bk = Fall.tot S.bk
theorem fallen {S : Sto α} (O : S.Ok) {place : Nat} (hp : place < S.bk.length) (hne : S.bk.getD place [] ≠ []) (he : ∀ j, j < place → S.bk.getD j [] = []) : Fallen S place := by
  have R := run_fell S hp (S.bk.getD place [])
  have M := minN_spec hne
  obtain ⟨⟨h0, hm0, e0⟩, hle⟩ := M
  have p0 := O.pl place h0 hm0
  have lp : part S.base (minN (S.bk.getD place [])) S.last = place := by
    rw [← e0]
    exact p0.1
  have lw : ∀ h, h ∈ S.bk.getD place [] → part S.base h.n (minN (S.bk.getD place [])) ≤ place := fun h hm => part_fall O.b2 lp (O.pl place h hm).1
  have gd : ∀ j, (S.fall place).bk.getD j [] = if j = place ∧ place < (S.run place (S.bk.getD place [])).1.length then (S.run place (S.bk.getD place [])).2.1 else (S.run place (S.bk.getD place [])).1.getD j [] := fun j => set_getD _ _ _ _
  have hp' : place < (S.run place (S.bk.getD place [])).1.length := by rw [R.len]; exact hp
  refine ⟨?_, fun j hj => ?_, ?_, fun j hj => ?_, ⟨⟨h0, hm0, e0⟩, hle⟩, lw, lp, ?_, R.mv, ?_⟩
  · show ((S.run place (S.bk.getD place [])).1.set place _).length = _
    rw [List.length_set]
    exact R.len
  · rw [gd, if_neg (fun z => by omega), R.lo j hj, he j hj]
    rfl
  · rw [gd, if_pos ⟨rfl, hp'⟩, R.stay]
    refine List.filter_congr fun h hm => ?_
    have := lw h hm
    exact decide_eq_decide.mpr ⟨fun z => by
      show part S.base h.n (minN (S.bk.getD place [])) = place
      omega, fun z => by
      have z' : part S.base h.n (minN (S.bk.getD place [])) = place := z
      omega⟩
  · rw [gd, if_neg (fun z => by omega), R.hi j (by omega)]
  · show S.last ≤ minN (S.bk.getD place [])
    rw [← e0]
    exact p0.2
  · have t1 := tot_set (S.run place (S.bk.getD place [])).2.1 hp'
    have t2 := R.tot
    have t3 := R.hi place (Nat.le_refl _)
    show Fall.tot ((S.run place (S.bk.getD place [])).1.set place _) = _
    rw [t3] at t1
    omega
theorem fall_ok {S : Sto α} (O : S.Ok) {place : Nat} (hp : place < S.bk.length) (hne : S.bk.getD place [] ≠ []) (he : ∀ j, j < place → S.bk.getD j [] = []) : (S.fall place).Ok := by
  have F := fallen O hp hne he
  refine ⟨O.b2, O.b16, ?_, fun j h hm => ?_⟩
  · rw [F.tot]
    exact O.tot
  · rcases Nat.lt_trichotomy j place with c | c | c
    · rw [F.lo j c] at hm
      obtain ⟨y, hy, rfl⟩ := List.mem_map.mp hm
      obtain ⟨hy1, hy2⟩ := List.mem_filter.mp hy
      exact ⟨of_decide_eq_true hy2, F.mn.2 y hy1⟩
    · subst c
      rw [F.at_] at hm
      obtain ⟨hy1, hy2⟩ := List.mem_filter.mp hm
      exact ⟨of_decide_eq_true hy2, F.mn.2 h hy1⟩
    · rw [F.hi j c] at hm
      obtain ⟨p1, p2⟩ := O.pl j h hm
      refine ⟨?_, ?_⟩
      · show part S.base h.n (S.fall place).last = j
        rw [part_keep O.b2 (Nat.le_of_eq F.lp) (by omega)]
        exact p1
      · obtain ⟨⟨m, hm1, hm2⟩, _⟩ := F.mn
        obtain ⟨q1, q2⟩ := O.pl place m hm1
        have := part_order O.b2 p2 (x := m.n) (by omega)
        omega
/-- ahead of the taking: the first bucket is not empty, all are as told -/
structure Ready (S : Sto α) : Prop where
  ok : S.pre.Ok
  ne : S.pre.bk.getD 0 [] ≠ []
  many : S.pre.many = S.many
  base : S.pre.base = S.base
  len : S.pre.bk.length = S.bk.length
theorem ready {S : Sto α} (O : S.Ok) (h : 0 < S.many) : Ready S := by
  have L := low_spec (bk := S.bk) (by rw [← O.tot]; exact h)
  obtain ⟨h1, h2, h3⟩ := L
  by_cases c : 0 < low S.bk
  · have F := fallen O h1 h2 h3
    have K := fall_ok O h1 h2 h3
    have g : (S.fall (low S.bk)).bk.getD 0 [] ≠ [] := by
      obtain ⟨⟨m, hm1, hm2⟩, _⟩ := F.mn
      rw [F.lo 0 c]
      intro z
      have : bump m ∈ ((S.bk.getD (low S.bk) []).filter fun h => part S.base h.n (S.fall (low S.bk)).last = 0).map bump := by
        refine List.mem_map.mpr ⟨m, List.mem_filter.mpr ⟨hm1, decide_eq_true ?_⟩, rfl⟩
        rw [hm2, part_eq]
      rw [z] at this
      cases this
    have e : (if 0 < low S.bk then S.fall (low S.bk) else S) = S.fall (low S.bk) := if_pos c
    refine ⟨?_, ?_, ?_, ?_, ?_⟩
    · unfold Sto.pre; rw [e]; exact K
    · unfold Sto.pre; rw [e]; exact g
    · unfold Sto.pre; rw [e]; rfl
    · unfold Sto.pre; rw [e]; rfl
    · unfold Sto.pre; rw [e]; exact F.len
  · have e : (if 0 < low S.bk then S.fall (low S.bk) else S) = S := if_neg c
    have z : low S.bk = 0 := by omega
    rw [z] at h2
    refine ⟨?_, ?_, ?_, ?_, ?_⟩
    · unfold Sto.pre; rw [e]; exact O
    · unfold Sto.pre; rw [e]; exact h2
    · unfold Sto.pre; rw [e]
    · unfold Sto.pre; rw [e]
    · unfold Sto.pre; rw [e]
theorem take_getD {S : Sto α} (R : Ready S) (j : Nat) : S.take.bk.getD j [] = if j = 0 then (S.pre.bk.getD 0 []).drop 1 else S.pre.bk.getD j [] := by
  show (S.pre.bk.set 0 _).getD j [] = _
  rw [set_getD]
  have hl : 0 < S.pre.bk.length := by
    rcases Nat.lt_or_ge 0 S.pre.bk.length with z | z
    · exact z
    · exact absurd (getD_ge z) R.ne
  by_cases e : j = 0
  · rw [if_pos ⟨e, hl⟩, if_pos e]
  · rw [if_neg (fun z => e z.1), if_neg e]
theorem take_ok {S : Sto α} (O : S.Ok) (h : 0 < S.many) : S.take.Ok := by
  have R := ready O h
  have K := R.ok
  have hl : 0 < S.pre.bk.length := by
    rcases Nat.lt_or_ge 0 S.pre.bk.length with z | z
    · exact z
    · exact absurd (getD_ge z) R.ne
  refine ⟨K.b2, K.b16, ?_, fun j t ht => ?_⟩
  · show S.pre.many - 1 = Fall.tot (S.pre.bk.set 0 _)
    have t := tot_set ((S.pre.bk.getD 0 []).drop 1) hl
    rw [List.length_drop] at t
    have e := K.tot
    have n0 : 0 < (S.pre.bk.getD 0 []).length := List.length_pos_iff.mpr R.ne
    omega
  · rw [take_getD R] at ht
    by_cases e : j = 0
    · subst e
      rw [if_pos rfl] at ht
      exact K.pl 0 t (List.mem_of_mem_drop ht)
    · rw [if_neg e] at ht
      exact K.pl j t ht
end
/-! ### the store and a plain list of what is there -/
section
variable {α : Type}
def two (h : Th α) : Nat × α := (h.n, h.x)
def lof (v : Nat) (L : List (Nat × α)) : List (Nat × α) := L.filter fun q => q.1 = v
def bof (S : Sto α) (v : Nat) : List (Th α) := (S.bk.getD (part S.base v S.last) []).filter fun h => h.n = v
structure Holds (S : Sto α) (L : List (Nat × α)) : Prop where
  many : S.many = L.length
  at_ : ∀ v, (bof S v).map two = lof v L
theorem holds_new (b : Nat) : Holds (Sto.new b : Sto α) [] := ⟨rfl, fun v => by
  have e : (Sto.new b : Sto α).bk.getD (part b v 0) [] = [] := getD_ge (Nat.zero_le _)
  unfold bof
  show (((Sto.new b : Sto α).bk.getD (part b v 0) []).filter _).map two = _
  rw [e]
  rfl⟩
theorem lof_app (v : Nat) (A B : List (Nat × α)) : lof v (A ++ B) = lof v A ++ lof v B := List.filter_append ..
theorem lof_none {v : Nat} {A : List (Nat × α)} (h : ∀ q, q ∈ A → q.1 ≠ v) : lof v A = [] := List.filter_eq_nil_iff.mpr fun q hq z => h q hq (of_decide_eq_true z)
theorem lof_mem {q : Nat × α} {A : List (Nat × α)} (h : q ∈ A) : q ∈ lof q.1 A := List.mem_filter.mpr ⟨h, decide_eq_true rfl⟩
theorem lof_at (q : Nat × α) (B : List (Nat × α)) : lof q.1 (q :: B) = q :: lof q.1 B := List.filter_cons_of_pos (decide_eq_true rfl)
theorem lof_off {v : Nat} {q : Nat × α} (h : q.1 ≠ v) (B : List (Nat × α)) : lof v (q :: B) = lof v B := List.filter_cons_of_neg (fun z => h (of_decide_eq_true z))
theorem holds_put {S : Sto α} {L : List (Nat × α)} (P : Holds S L) (n : Nat) (x : α) : Holds (S.put n x) (L ++ [(n, x)]) := by
  refine ⟨?_, fun v => ?_⟩
  · show S.many + 1 = _
    rw [P.many, List.length_append]
    rfl
  · have e := P.at_ v
    unfold bof at e ⊢
    show (((S.put n x).bk.getD (part S.base v S.last) []).filter _).map two = _
    rw [put_getD, lof_app, ← e]
    by_cases c : n = v
    · subst c
      rw [if_pos rfl, List.filter_append, List.map_append, lof_at (n, x) []]
      congr 1
      have : [(⟨n, x, 0⟩ : Th α)].filter (fun h => decide (h.n = n)) = [⟨n, x, 0⟩] := List.filter_cons_of_pos (decide_eq_true rfl)
      rw [this]
      rfl
    · rw [lof_off (q := (n, x)) c []]
      show _ = _ ++ []
      rw [List.append_nil]
      by_cases d : part S.base v S.last = part S.base n S.last
      · rw [if_pos d, List.filter_append]
        have : [(⟨n, x, 0⟩ : Th α)].filter (fun h => decide (h.n = v)) = [] := List.filter_cons_of_neg (fun z => c (of_decide_eq_true z))
        rw [this, List.append_nil]
      · rw [if_neg d]
/-- what is in a bucket and of one number -/
theorem bof_mem {S : Sto α} (O : S.Ok) {j : Nat} {h : Th α} (hm : h ∈ S.bk.getD j []) : h ∈ bof S h.n := by
  have p := (O.pl j h hm).1
  unfold bof
  rw [p]
  exact List.mem_filter.mpr ⟨hm, decide_eq_true rfl⟩
theorem filter_two (l : List (Th α)) (v : Nat) (p : Th α → Bool) (h : ∀ t, t ∈ l → t.n = v → p t = true) : (l.filter p).filter (fun t => t.n = v) = l.filter fun t => t.n = v := by
  rw [List.filter_filter]
  refine List.filter_congr fun t ht => ?_
  by_cases c : t.n = v
  · rw [h t ht c, Bool.and_true]
  · rw [decide_eq_false c]
    rfl
theorem fT {v : Nat} {a : Th α} (h : a.n = v) (l : List (Th α)) : (a :: l).filter (fun t => decide (t.n = v)) = a :: l.filter fun t => decide (t.n = v) := List.filter_cons_of_pos (decide_eq_true h)
theorem fF {v : Nat} {a : Th α} (h : ¬ a.n = v) (l : List (Th α)) : (a :: l).filter (fun t => decide (t.n = v)) = l.filter fun t => decide (t.n = v) := List.filter_cons_of_neg (fun z => h (of_decide_eq_true z))
theorem filter_bump (l : List (Th α)) (v : Nat) : ((l.map bump).filter fun t => t.n = v).map two = (l.filter fun t => t.n = v).map two := by
  induction l with
  | nil => rfl
  | cons a l ih =>
    rw [List.map_cons]
    by_cases c : a.n = v
    · rw [fT (a := bump a) c, fT c, List.map_cons, List.map_cons, ih]
      rfl
    · rw [fF (a := bump a) c, fF c, ih]
theorem bof_fall {S : Sto α} (O : S.Ok) {place : Nat} (hp : place < S.bk.length) (hne : S.bk.getD place [] ≠ []) (he : ∀ j, j < place → S.bk.getD j [] = []) (v : Nat) : (bof (S.fall place) v).map two = (bof S v).map two := by
  have F := fallen O hp hne he
  have nl : ∀ h, h ∈ (S.fall place).bk.getD (part S.base v (S.fall place).last) [] → h.n = v → part S.base v S.last = place ∨ place < part S.base v S.last := fun h hm e => by
    rcases Nat.lt_trichotomy (part S.base v (S.fall place).last) place with c | c | c
    · rw [F.lo _ c] at hm
      obtain ⟨y, hy, rfl⟩ := List.mem_map.mp hm
      have q := (O.pl place y (List.mem_filter.mp hy).1).1
      have e2 : y.n = v := e
      rw [e2] at q
      exact Or.inl q
    · rw [c, F.at_] at hm
      have q := (O.pl place h (List.mem_filter.mp hm).1).1
      rw [e] at q
      exact Or.inl q
    · rw [F.hi _ c] at hm
      have q := (O.pl _ h hm).1
      rw [e] at q
      exact Or.inr (by omega)
  show (((S.fall place).bk.getD (part S.base v (S.fall place).last) []).filter fun h => h.n = v).map two = _
  rcases Nat.lt_trichotomy (part S.base v S.last) place with c | c | c
  · have e1 : ((S.fall place).bk.getD (part S.base v (S.fall place).last) []).filter (fun h => decide (h.n = v)) = [] := List.filter_eq_nil_iff.mpr fun h hm z => by
      rcases nl h hm (of_decide_eq_true z) with y | y <;> omega
    rw [e1]
    unfold bof
    rw [he _ c]
    rfl
  · have lp := F.lp
    have le : part S.base v (S.fall place).last ≤ place := part_fall O.b2 lp c
    unfold bof
    rw [c]
    rcases Nat.lt_or_eq_of_le le with d | d
    · rw [F.lo _ d, filter_bump, filter_two _ v _ (fun t _ e => by rw [e]; exact decide_eq_true rfl)]
    · rw [d, F.at_, filter_two _ v _ (fun t _ e => by rw [e]; exact decide_eq_true d)]
  · have e : part S.base v (S.fall place).last = part S.base v S.last := part_keep O.b2 (Nat.le_of_eq F.lp) c
    unfold bof
    rw [e, F.hi _ c]
theorem bof_pre {S : Sto α} (O : S.Ok) (h : 0 < S.many) (v : Nat) : (bof S.pre v).map two = (bof S v).map two := by
  obtain ⟨h1, h2, h3⟩ := low_spec (bk := S.bk) (by rw [← O.tot]; exact h)
  by_cases c : 0 < low S.bk
  · have e : S.pre = S.fall (low S.bk) := if_pos c
    rw [e]
    exact bof_fall O h1 h2 h3 v
  · have e : S.pre = S := if_neg c
    rw [e]
theorem holds_pre {S : Sto α} {L : List (Nat × α)} (O : S.Ok) (h : 0 < S.many) (P : Holds S L) : Holds S.pre L := ⟨by rw [(ready O h).many]; exact P.many, fun v => by rw [bof_pre O h v]; exact P.at_ v⟩
/-- none is less than the last one gone -/
theorem holds_ge {S : Sto α} {L : List (Nat × α)} (O : S.Ok) (P : Holds S L) {q : Nat × α} (hq : q ∈ L) : S.last ≤ q.1 := by
  have h1 := lof_mem hq
  rw [← P.at_ q.1] at h1
  obtain ⟨t, ht, e⟩ := List.mem_map.mp h1
  obtain ⟨h3, h4⟩ := List.mem_filter.mp ht
  have := (O.pl _ t h3).2
  rw [of_decide_eq_true h4] at this
  exact this
/-- the list with its first least told -/
structure Split (L A : List (Nat × α)) (q : Nat × α) (B : List (Nat × α)) : Prop where
  eq : L = A ++ q :: B
  lt : ∀ a, a ∈ A → q.1 < a.1
  le : ∀ b, b ∈ B → q.1 ≤ b.1
theorem split_ex : ∀ {L : List (Nat × α)}, L ≠ [] → ∃ A q B, Split L A q B
  | [], h => absurd rfl h
  | [a], _ => ⟨[], a, [], ⟨rfl, by simp, by simp⟩⟩
  | a :: b :: r, _ => by
    obtain ⟨A, q, B, ⟨e, h1, h2⟩⟩ := split_ex (L := b :: r) (by simp)
    by_cases c : a.1 ≤ q.1
    · refine ⟨[], a, b :: r, ⟨rfl, by simp, fun y hy => ?_⟩⟩
      rw [e] at hy
      rcases List.mem_append.mp hy with z | z
      · have := h1 y z
        omega
      · rcases List.mem_cons.mp z with z | z
        · rw [z]; exact c
        · have := h2 y z
          omega
    · refine ⟨a :: A, q, B, ⟨by rw [e]; rfl, fun y hy => ?_, h2⟩⟩
      rcases List.mem_cons.mp hy with z | z
      · rw [z]; omega
      · exact h1 y z
theorem Split.lof {L A : List (Nat × α)} {q : Nat × α} {B : List (Nat × α)} (s : Split L A q B) : lof q.1 L = q :: lof q.1 B := by
  rw [s.eq, lof_app, lof_none (A := A) (fun a ha z => by have := s.lt a ha; omega), lof_at]
  rfl
theorem Split.ge {L A : List (Nat × α)} {q : Nat × α} {B : List (Nat × α)} (s : Split L A q B) {r : Nat × α} (h : r ∈ L) : q.1 ≤ r.1 := by
  rw [s.eq] at h
  rcases List.mem_append.mp h with z | z
  · exact Nat.le_of_lt (s.lt r z)
  · rcases List.mem_cons.mp z with z | z
    · rw [z]; exact Nat.le_refl _
    · exact s.le r z
theorem Split.mem {L A : List (Nat × α)} {q : Nat × α} {B : List (Nat × α)} (s : Split L A q B) : q ∈ L := by
  rw [s.eq]
  simp
theorem Split.len {L A : List (Nat × α)} {q : Nat × α} {B : List (Nat × α)} (s : Split L A q B) : L.length = (A ++ B).length + 1 := by
  rw [s.eq, List.length_append, List.length_append, List.length_cons]
  omega
/-- what goes is the first least of the list; the rest stays -/
structure Gone (S : Sto α) (A : List (Nat × α)) (q : Nat × α) (B : List (Nat × α)) (h : Th α) : Prop where
  th : two h = q
  last : S.take.last = q.1
  rest : Holds S.take (A ++ B)
theorem gone {S : Sto α} {L A : List (Nat × α)} {q : Nat × α} {B : List (Nat × α)} (O : S.Ok) (P : Holds S L) (s : Split L A q B) {h : Th α} (eh : (S.pre.bk.getD 0 []).head? = some h) : Gone S A q B h := by
  have hpos : 0 < S.many := by
    rw [P.many, s.len]
    omega
  have R := ready O hpos
  have P1 := holds_pre O hpos P
  have K := R.ok
  obtain ⟨r, er⟩ : ∃ r, S.pre.bk.getD 0 [] = h :: r := by
    cases z : S.pre.bk.getD 0 [] with
    | nil => exact absurd z R.ne
    | cons h' r =>
      rw [z] at eh
      have : h' = h := Option.some.inj eh
      exact ⟨r, by rw [this]⟩
  have alln : ∀ t, t ∈ S.pre.bk.getD 0 [] → t.n = S.pre.last := fun t ht => part_zero K.b2 (K.pl 0 t ht).1
  have e0 : part S.pre.base S.pre.last S.pre.last = 0 := by rw [part_eq]
  have b0 : bof S.pre S.pre.last = S.pre.bk.getD 0 [] := by
    unfold bof
    rw [e0]
    exact List.filter_eq_self.mpr fun t ht => decide_eq_true (alln t ht)
  have a0 := P1.at_ S.pre.last
  rw [b0] at a0
  have hn : h.n = S.pre.last := alln h (by rw [er]; simp)
  have qn : q.1 = S.pre.last := by
    have h1 : S.pre.last ≤ q.1 := holds_ge K P1 s.mem
    have h2 : two h ∈ lof S.pre.last L := by
      rw [← a0, er]
      simp
    have h3 := s.ge (List.mem_filter.mp h2).1
    have h4 : (two h).1 = S.pre.last := hn
    omega
  have e1 : two h :: r.map two = q :: lof q.1 B := by
    rw [← s.lof, qn, ← a0, er]
    rfl
  obtain ⟨e2, e3⟩ := List.cons.inj e1
  refine ⟨e2, qn.symm, ?_, fun v => ?_⟩
  · show S.pre.many - 1 = _
    have h1 := R.many
    have h2 := P.many
    have h3 := s.len
    omega
  · have g : bof S.take v = (if part S.pre.base v S.pre.last = 0 then (S.pre.bk.getD 0 []).drop 1 else S.pre.bk.getD (part S.pre.base v S.pre.last) []).filter fun t => t.n = v := by
      unfold bof
      show (S.take.bk.getD (part S.pre.base v S.pre.last) []).filter _ = _
      rw [take_getD R]
    have key := P1.at_ v
    rw [s.eq, lof_app] at key
    rw [g, lof_app]
    by_cases c : v = S.pre.last
    · subst c
      rw [if_pos e0, er]
      have e4 : (r.filter fun t => decide (t.n = S.pre.last)) = r := List.filter_eq_self.mpr fun t ht => decide_eq_true (alln t (by rw [er]; simp [ht]))
      have e5 : lof S.pre.last A = [] := lof_none fun a ha z => by
        have := s.lt a ha
        omega
      show (r.filter fun t => decide (t.n = S.pre.last)).map two = _
      rw [e4, e3, e5, qn]
      rfl
    · have c2 : ¬ part S.pre.base v S.pre.last = 0 := fun z => c (part_zero K.b2 z)
      rw [if_neg c2]
      rw [lof_off (q := q) (by omega) B] at key
      exact key
theorem first_spec : ∀ (r : List (Th α)) (f : Th α), first f r ∈ f :: r ∧ (∀ g, g ∈ f :: r → (first f r).n ≤ g.n) ∧ ((f :: r).filter fun t => t.n = (first f r).n).head? = some (first f r)
  | [], f => ⟨by simp [first], fun g hg => by
      have : g = f := by simpa using hg
      rw [this]
      exact Nat.le_refl _, by simp [first]⟩
  | h :: r, f => by
    by_cases c : h.n < f.n
    · obtain ⟨h1, h2, h3⟩ := first_spec r h
      have e : first f (h :: r) = first h r := if_pos c
      rw [e]
      have lt := h2 h (by simp)
      refine ⟨List.mem_cons_of_mem _ h1, fun g hg => ?_, ?_⟩
      · rcases List.mem_cons.mp hg with z | z
        · rw [z]; omega
        · exact h2 g z
      · rw [fF (by omega)]
        exact h3
    · obtain ⟨h1, h2, h3⟩ := first_spec r f
      have e : first f (h :: r) = first f r := if_neg c
      rw [e]
      have lt := h2 f (by simp)
      refine ⟨?_, fun g hg => ?_, ?_⟩
      · rcases List.mem_cons.mp h1 with z | z
        · rw [z]; simp
        · simp [z]
      · rcases List.mem_cons.mp hg with z | z
        · rw [z]; exact lt
        · rcases List.mem_cons.mp z with z | z
          · rw [z]; omega
          · exact h2 g (by simp [z])
      · by_cases d : f.n = (first f r).n
        · rw [fT d] at h3 ⊢
          exact h3
        · rw [fF d] at h3 ⊢
          rw [fF (by omega)]
          exact h3
/-- what least tells is the first least of the list -/
theorem least_two {S : Sto α} {L A : List (Nat × α)} {q : Nat × α} {B : List (Nat × α)} (O : S.Ok) (P : Holds S L) (s : Split L A q B) {h : Th α} {r : List (Th α)} (eh : S.bk.getD (low S.bk) [] = h :: r) : two (first h r) = q := by
  have hpos : 0 < S.many := by
    rw [P.many, s.len]
    omega
  obtain ⟨l1, l2, l3⟩ := low_spec (bk := S.bk) (by rw [← O.tot]; exact hpos)
  obtain ⟨f1, f2, f3⟩ := first_spec r h
  have fm : first h r ∈ S.bk.getD (low S.bk) [] := by rw [eh]; exact f1
  have fp := O.pl _ _ fm
  have a0 := P.at_ (first h r).n
  have b0 : bof S (first h r).n = (h :: r).filter fun t => t.n = (first h r).n := by
    unfold bof
    rw [fp.1, eh]
  rw [b0] at a0
  have hd : (lof (first h r).n L).head? = some (two (first h r)) := by
    rw [← a0, List.head?_map, f3]
    rfl
  have m1 : two (first h r) ∈ lof (first h r).n L := List.mem_of_head? hd
  have q1 : q.1 ≤ (first h r).n := s.ge (r := two (first h r)) (List.mem_filter.mp m1).1
  have q2 : (first h r).n ≤ q.1 := by
    have h1 := lof_mem s.mem
    rw [← P.at_ q.1] at h1
    obtain ⟨t, ht, e⟩ := List.mem_map.mp h1
    obtain ⟨h3, h4⟩ := List.mem_filter.mp ht
    have h5 := of_decide_eq_true h4
    have h6 := O.pl _ t h3
    rcases Nat.lt_trichotomy (part S.base q.1 S.last) (low S.bk) with c | c | c
    · rw [l3 _ c] at h3
      cases h3
    · rw [c, eh] at h3
      have := f2 t h3
      omega
    · have := part_order O.b2 h6.2 (x := (first h r).n) (b := S.base) (by omega)
      omega
  have q3 : q.1 = (first h r).n := by omega
  have e := s.lof
  rw [q3] at e
  rw [e] at hd
  exact (Option.some.inj hd).symm
/-- the first least by its place -/
def FirstAt (L : List (Nat × α)) (k : Nat) (q : Nat × α) : Prop := L[k]? = some q ∧ ∀ j r, L[j]? = some r → q.1 ≤ r.1 ∧ (j < k → q.1 < r.1)
theorem FirstAt.split {L : List (Nat × α)} {k : Nat} {q : Nat × α} (f : FirstAt L k q) : Split L (L.take k) q (L.drop (k + 1)) := by
  obtain ⟨e, h⟩ := f
  obtain ⟨hk, eq⟩ := List.getElem?_eq_some_iff.mp e
  refine ⟨?_, fun a ha => ?_, fun b hb => ?_⟩
  · have : L.drop k = q :: L.drop (k + 1) := by rw [List.drop_eq_getElem_cons hk, eq]
    rw [← this, List.take_append_drop]
  · obtain ⟨j, ej⟩ := List.mem_iff_getElem?.mp ha
    rw [List.getElem?_take] at ej
    by_cases c : j < k
    · rw [if_pos c] at ej
      exact (h j a ej).2 c
    · rw [if_neg c] at ej
      cases ej
  · obtain ⟨j, ej⟩ := List.mem_iff_getElem?.mp hb
    rw [List.getElem?_drop] at ej
    exact (h _ b ej).1
/-! ### in order -/
def Sorted (L : List (Nat × α)) : Prop := L.Pairwise fun a b => a.1 ≤ b.1
theorem sorted_same : ∀ {D E : List (Nat × α)}, Sorted D → Sorted E → (∀ v, lof v D = lof v E) → D = E
  | [], [], _, _, _ => rfl
  | [], e :: E, _, _, h => by
    have := h e.1
    rw [lof_at] at this
    cases this
  | d :: D, [], _, _, h => by
    have := h d.1
    rw [lof_at] at this
    cases this
  | d :: D, e :: E, sd, se, h => by
    obtain ⟨sd1, sd2⟩ := List.pairwise_cons.mp sd
    obtain ⟨se1, se2⟩ := List.pairwise_cons.mp se
    have h1 : e.1 ≤ d.1 := by
      have : d ∈ lof d.1 (e :: E) := by
        rw [← h d.1]
        exact lof_mem (by simp)
      rcases List.mem_cons.mp (List.mem_filter.mp this).1 with z | z
      · rw [z]; exact Nat.le_refl _
      · exact se1 d z
    have h2 : d.1 ≤ e.1 := by
      have : e ∈ lof e.1 (d :: D) := by
        rw [h e.1]
        exact lof_mem (by simp)
      rcases List.mem_cons.mp (List.mem_filter.mp this).1 with z | z
      · rw [z]; exact Nat.le_refl _
      · exact sd1 e z
    have h3 : d.1 = e.1 := by omega
    have h4 := h d.1
    rw [lof_at, h3, lof_at] at h4
    obtain ⟨h5, _⟩ := List.cons.inj h4
    subst h5
    rw [sorted_same sd2 se2 (fun v => ?_)]
    have h6 := h v
    by_cases c : d.1 = v
    · subst c
      rw [lof_at, lof_at] at h6
      exact (List.cons.inj h6).2
    · rw [lof_off c, lof_off c] at h6
      exact h6
theorem sorted_app {D : List (Nat × α)} {q : Nat × α} (s : Sorted D) (h : ∀ d, d ∈ D → d.1 ≤ q.1) : Sorted (D ++ [q]) := by
  refine List.pairwise_append.mpr ⟨s, List.pairwise_singleton _ _, fun a ha b hb => ?_⟩
  have : b = q := by simpa using hb
  rw [this]
  exact h a ha
end
end Fall
namespace Fall
open PySem L2
def topS (i : Nat) : Stmt := PySem.Challenge.pw_bucketfall_k04_read.main.body.getD i (.Pass ⟨0, 0, 0, 0⟩)
abbrev s_need_base : Stmt := topS 8
abbrev s_read : Stmt := topS 9
abbrev s_l_cell_at : Stmt := topS 11
abbrev s_l_whole : Stmt := topS 12
abbrev s_l_sign_by : Stmt := topS 13
abbrev s_l_line_by : Stmt := topS 14
abbrev s_l_due_of : Stmt := topS 15
abbrev s_l_words : Stmt := topS 16
abbrev s_l_refused_by_any : Stmt := topS 17
abbrev s_law : Stmt := topS 18
structure Ad where
  f_need_base : Addr
  d_need_base : FuncData
  f_read : Addr
  d_read : FuncData
  f_l_cell_at : Addr
  d_l_cell_at : FuncData
  f_l_whole : Addr
  d_l_whole : FuncData
  f_l_sign_by : Addr
  d_l_sign_by : FuncData
  f_l_line_by : Addr
  d_l_line_by : FuncData
  f_l_due_of : Addr
  d_l_due_of : FuncData
  f_l_words : Addr
  d_l_words : FuncData
  f_l_refused_by_any : Addr
  d_l_refused_by_any : FuncData
  f_law : Addr
  d_law : FuncData
  C_FallError : Addr
  C_NoBase : Addr
  C_NoNumber : Addr
  C_Late : Addr
  C_Bare : Addr
structure Txt (K : PySem.W.Frag) (mg : Str → Option Value) (a : Ad) : Prop where
  F_need_base : Fun K "need_base" "need_base" s_need_base a.f_need_base a.d_need_base
  m_need_base : mg "need_base" = some (.ref a.f_need_base)
  b_need_base : Binds K a.d_need_base ["base"] []
  F_read : Fun K "read" "read" s_read a.f_read a.d_read
  m_read : mg "read" = some (.ref a.f_read)
  b_read : Binds K a.d_read ["line", "base"] []
  F_l_cell_at : Fun K "_law_cell_at" "_law_cell_at" s_l_cell_at a.f_l_cell_at a.d_l_cell_at
  m_l_cell_at : mg "_law_cell_at" = some (.ref a.f_l_cell_at)
  b_l_cell_at : Binds K a.d_l_cell_at ["_law_script", "_law_k"] []
  F_l_whole : Fun K "_law_whole" "_law_whole" s_l_whole a.f_l_whole a.d_l_whole
  m_l_whole : mg "_law_whole" = some (.ref a.f_l_whole)
  b_l_whole : Binds K a.d_l_whole ["_law_found"] []
  F_l_sign_by : Fun K "_law_sign_by" "_law_sign_by" s_l_sign_by a.f_l_sign_by a.d_l_sign_by
  m_l_sign_by : mg "_law_sign_by" = some (.ref a.f_l_sign_by)
  b_l_sign_by : Binds K a.d_l_sign_by ["_law_cell"] []
  F_l_line_by : Fun K "_law_line_by" "_law_line_by" s_l_line_by a.f_l_line_by a.d_l_line_by
  m_l_line_by : mg "_law_line_by" = some (.ref a.f_l_line_by)
  b_l_line_by : Binds K a.d_l_line_by ["_law_script", "_law_base"] []
  F_l_due_of : Fun K "_law_due_of" "_law_due_of" s_l_due_of a.f_l_due_of a.d_l_due_of
  m_l_due_of : mg "_law_due_of" = some (.ref a.f_l_due_of)
  b_l_due_of : Binds K a.d_l_due_of ["_law_line", "_law_base"] []
  F_l_words : Fun K "_law_words" "_law_words" s_l_words a.f_l_words a.d_l_words
  m_l_words : mg "_law_words" = some (.ref a.f_l_words)
  b_l_words : Binds K a.d_l_words ["_law_e"] []
  F_l_refused_by_any : Fun K "_law_refused_by_any" "_law_refused_by_any" s_l_refused_by_any a.f_l_refused_by_any a.d_l_refused_by_any
  m_l_refused_by_any : mg "_law_refused_by_any" = some (.ref a.f_l_refused_by_any)
  b_l_refused_by_any : Binds K a.d_l_refused_by_any ["_law_line", "_law_base"] []
  F_law : Fun K "law" "law" s_law a.f_law a.d_law
  m_law : mg "law" = some (.ref a.f_law)
  b_law : Binds K a.d_law ["_law_script"] []
  g_FallError : mg "FallError" = some (.ref a.C_FallError)
  x_FallError : PySem.W.excIn K a.C_FallError [.type "ValueError", .type "Exception", .type "BaseException", .type "object"] "ValueError.__new__" = true
  k_FallError : PySem.W.keepIn K (.ref a.C_FallError) = true
  xb_FallError : PySem.W.subIn K (.ref a.C_FallError) (.type "BaseException") = some true
  xt_FallError : PySem.W.typeIn K (.ref a.C_FallError) = some (.type "type")
  g_NoBase : mg "NoBase" = some (.ref a.C_NoBase)
  x_NoBase : PySem.W.excIn K a.C_NoBase [.type "ValueError", .type "Exception", .type "BaseException", .type "object"] "ValueError.__new__" = true
  k_NoBase : PySem.W.keepIn K (.ref a.C_NoBase) = true
  xb_NoBase : PySem.W.subIn K (.ref a.C_NoBase) (.type "BaseException") = some true
  xt_NoBase : PySem.W.typeIn K (.ref a.C_NoBase) = some (.type "type")
  g_NoNumber : mg "NoNumber" = some (.ref a.C_NoNumber)
  x_NoNumber : PySem.W.excIn K a.C_NoNumber [.type "ValueError", .type "Exception", .type "BaseException", .type "object"] "ValueError.__new__" = true
  k_NoNumber : PySem.W.keepIn K (.ref a.C_NoNumber) = true
  xb_NoNumber : PySem.W.subIn K (.ref a.C_NoNumber) (.type "BaseException") = some true
  xt_NoNumber : PySem.W.typeIn K (.ref a.C_NoNumber) = some (.type "type")
  g_Late : mg "Late" = some (.ref a.C_Late)
  x_Late : PySem.W.excIn K a.C_Late [.type "ValueError", .type "Exception", .type "BaseException", .type "object"] "ValueError.__new__" = true
  k_Late : PySem.W.keepIn K (.ref a.C_Late) = true
  xb_Late : PySem.W.subIn K (.ref a.C_Late) (.type "BaseException") = some true
  xt_Late : PySem.W.typeIn K (.ref a.C_Late) = some (.type "type")
  g_Bare : mg "Bare" = some (.ref a.C_Bare)
  x_Bare : PySem.W.excIn K a.C_Bare [.type "ValueError", .type "Exception", .type "BaseException", .type "object"] "ValueError.__new__" = true
  k_Bare : PySem.W.keepIn K (.ref a.C_Bare) = true
  xb_Bare : PySem.W.subIn K (.ref a.C_Bare) (.type "BaseException") = some true
  xt_Bare : PySem.W.typeIn K (.ref a.C_Bare) = some (.type "type")
  q_NoBase_NoBase : PySem.W.subIn K (.ref a.C_NoBase) (.ref a.C_NoBase) = some true
  q_NoBase_NoNumber : PySem.W.subIn K (.ref a.C_NoBase) (.ref a.C_NoNumber) = some false
  q_NoBase_Late : PySem.W.subIn K (.ref a.C_NoBase) (.ref a.C_Late) = some false
  q_NoBase_Bare : PySem.W.subIn K (.ref a.C_NoBase) (.ref a.C_Bare) = some false
  q_NoBase_V : PySem.W.subIn K (.ref a.C_NoBase) (.type "ValueError") = some true
  e_NoBase : PySem.W.subIn K (.ref a.C_NoBase) (.ref a.C_FallError) = some true
  eg_NoBase : PySem.W.findIn K (.ref a.C_NoBase) "__getattribute__" = some (some (.builtin "BaseException.__getattribute__"))
  ek_NoBase : PySem.W.findIn K (.ref a.C_NoBase) "__getattr__" = some none
  ed_NoBase : PySem.W.hasDictIn K a.C_NoBase = true
  ea_NoBase : PySem.W.findIn K (.ref a.C_NoBase) "__class__" = some (some (.builtin "object.__class__"))
  em_NoBase : PySem.W.mroIn K a.C_NoBase (.type "object") = some true
  q_NoNumber_NoBase : PySem.W.subIn K (.ref a.C_NoNumber) (.ref a.C_NoBase) = some false
  q_NoNumber_NoNumber : PySem.W.subIn K (.ref a.C_NoNumber) (.ref a.C_NoNumber) = some true
  q_NoNumber_Late : PySem.W.subIn K (.ref a.C_NoNumber) (.ref a.C_Late) = some false
  q_NoNumber_Bare : PySem.W.subIn K (.ref a.C_NoNumber) (.ref a.C_Bare) = some false
  q_NoNumber_V : PySem.W.subIn K (.ref a.C_NoNumber) (.type "ValueError") = some true
  e_NoNumber : PySem.W.subIn K (.ref a.C_NoNumber) (.ref a.C_FallError) = some true
  eg_NoNumber : PySem.W.findIn K (.ref a.C_NoNumber) "__getattribute__" = some (some (.builtin "BaseException.__getattribute__"))
  ek_NoNumber : PySem.W.findIn K (.ref a.C_NoNumber) "__getattr__" = some none
  ed_NoNumber : PySem.W.hasDictIn K a.C_NoNumber = true
  ea_NoNumber : PySem.W.findIn K (.ref a.C_NoNumber) "__class__" = some (some (.builtin "object.__class__"))
  em_NoNumber : PySem.W.mroIn K a.C_NoNumber (.type "object") = some true
  q_Late_NoBase : PySem.W.subIn K (.ref a.C_Late) (.ref a.C_NoBase) = some false
  q_Late_NoNumber : PySem.W.subIn K (.ref a.C_Late) (.ref a.C_NoNumber) = some false
  q_Late_Late : PySem.W.subIn K (.ref a.C_Late) (.ref a.C_Late) = some true
  q_Late_Bare : PySem.W.subIn K (.ref a.C_Late) (.ref a.C_Bare) = some false
  q_Late_V : PySem.W.subIn K (.ref a.C_Late) (.type "ValueError") = some true
  e_Late : PySem.W.subIn K (.ref a.C_Late) (.ref a.C_FallError) = some true
  eg_Late : PySem.W.findIn K (.ref a.C_Late) "__getattribute__" = some (some (.builtin "BaseException.__getattribute__"))
  ek_Late : PySem.W.findIn K (.ref a.C_Late) "__getattr__" = some none
  ed_Late : PySem.W.hasDictIn K a.C_Late = true
  ea_Late : PySem.W.findIn K (.ref a.C_Late) "__class__" = some (some (.builtin "object.__class__"))
  em_Late : PySem.W.mroIn K a.C_Late (.type "object") = some true
  q_Bare_NoBase : PySem.W.subIn K (.ref a.C_Bare) (.ref a.C_NoBase) = some false
  q_Bare_NoNumber : PySem.W.subIn K (.ref a.C_Bare) (.ref a.C_NoNumber) = some false
  q_Bare_Late : PySem.W.subIn K (.ref a.C_Bare) (.ref a.C_Late) = some false
  q_Bare_Bare : PySem.W.subIn K (.ref a.C_Bare) (.ref a.C_Bare) = some true
  q_Bare_V : PySem.W.subIn K (.ref a.C_Bare) (.type "ValueError") = some true
  e_Bare : PySem.W.subIn K (.ref a.C_Bare) (.ref a.C_FallError) = some true
  eg_Bare : PySem.W.findIn K (.ref a.C_Bare) "__getattribute__" = some (some (.builtin "BaseException.__getattribute__"))
  ek_Bare : PySem.W.findIn K (.ref a.C_Bare) "__getattr__" = some none
  ed_Bare : PySem.W.hasDictIn K a.C_Bare = true
  ea_Bare : PySem.W.findIn K (.ref a.C_Bare) "__class__" = some (some (.builtin "object.__class__"))
  em_Bare : PySem.W.mroIn K a.C_Bare (.type "object") = some true
  ed_FallError : PySem.W.hasDictIn K a.C_FallError = true
  en_o : PySem.W.specialIn K (.builtin "object.__class__") "__get__" = some (some (.builtin "getset_descriptor.__get__"))
  et_o : PySem.W.takesIn K (.builtin "object.__class__") = some true
  c_SIGNS : ∃ t, mg "SIGNS" = some (.str "0123456789abcdef" t)
  n_ValueError : mg "ValueError" = none
  n_bool : mg "bool" = none
  n_int : mg "int" = none
  n_isinstance : mg "isinstance" = none
  n_len : mg "len" = none
  n_range : mg "range" = none
/-! ### small words -/
/-- nothing is let out of a call where nothing may be -/
theorem passN {X : Cx} : Passes (L2N.CX X.prog X.w) X E0 := fun _ _ _ _ _ _ _ c => let ⟨_, _, _, _, _, _, _, _, _, _, _, _, no⟩ := c; no.elim
/-- a def that may raise, by its body; of the exception its context is known to be none -/
theorem okN {P : Program} {w : World} {K : PySem.W.Frag} {mg : Str → Option Value} {base : Heap} {x q : Str} {st : Stmt} {f : Addr} {fd : FuncData} {N ps : List Str} {k : Nat} {sp : Sp} (F : Fun K x q st f fd) (S : FnScope N ps (defScope st)) (len : ∀ vs H Q E, sp vs H Q E → vs.length = ps.length)
    (body : ∀ (cdv : Value) (A : Around) (outer : List Env) (s : Shared) (H : Hp) (vs : List V) (Q : VK) (E : XK), Room k (A.deeper (PyProof.Rows.envOfC q (defScope st) s.heap.objs.size f cdv)) → sp vs H Q E →
      ∃ t, PSs (cxOf (L2N.CX P w) P w K mg base N q (defScope st) f cdv A outer s H E) (defBody st) t ∧ t { nx := fun _ H1 => Q .non H1, rt := Q } (start N vs) H) : FnOk P w K mg base (L2N.CX P w) (k + 1) f fd ps sp := by
  obtain ⟨oc, od, kV, doc, pm, an, cdv, ct, osl, rfl, hl, hc⟩ := F.ex
  exact fn_of hl hc S len (body cdv)
theorem ifd {p : Prop} [Decidable p] {A B : Prop} (h1 : p → A) (h2 : ¬ p → B) : if decide p = true then A else B := by
  by_cases h : p
  · rw [if_pos (decide_eq_true h)]
    exact h1 h
  · rw [if_neg (by rw [decide_eq_false h]; decide)]
    exact h2 h
theorem ifn {p : Prop} [Decidable p] {A B : Prop} (h1 : ¬ p → A) (h2 : p → B) : if (!decide p) = true then A else B := by
  by_cases h : p
  · rw [decide_eq_true h]
    exact iteF (h2 h)
  · rw [decide_eq_false h]
    exact iteT (h1 h)
theorem dec_ii {i j : Int} : decide (V.int i = V.int j) = decide (i = j) := by
  by_cases h : i = j
  · subst h
    simp
  · rw [decide_eq_false h, decide_eq_false (fun q => h (V.int.inj q))]
theorem dec_ss {i j : Str} : decide (V.str i = V.str j) = decide (i = j) := by
  by_cases h : i = j
  · subst h
    simp
  · rw [decide_eq_false h, decide_eq_false (fun q => h (V.str.inj q))]
theorem ifi {i j : Int} {A B : Prop} (h1 : i = j → A) (h2 : ¬ i = j → B) : if decide (V.int i = V.int j) = true then A else B := by
  rw [dec_ii]
  exact ifd h1 h2
theorem ifs {i j : Str} {A B : Prop} (h1 : i = j → A) (h2 : ¬ i = j → B) : if decide (V.str i = V.str j) = true then A else B := by
  rw [dec_ss]
  exact ifd h1 h2
theorem ifni {i j : Int} {A B : Prop} (h1 : ¬ i = j → A) (h2 : i = j → B) : if (!decide (V.int i = V.int j)) = true then A else B := by
  rw [dec_ii]
  exact ifn h1 h2
theorem bt {p : Prop} [Decidable p] (h : p) : decide p = true := decide_eq_true h
theorem divW {i : Int} {j : Int} (h1 : 0 < j) (h2 : j < 1073741824) : CDivW i j := by
  have e : (2 : Nat) ^ 30 = 1073741824 := by decide
  refine wide_div (b := 30) h1 ?_ (by decide) (by decide)
  rw [e]
  omega
theorem mod_nat (c : Int) (m : Nat) (h : 0 < m) : ∃ r : Nat, c % (m : Int) = r ∧ r < m :=
  ⟨(c % (m : Int)).toNat, by
    have := Int.emod_nonneg c (show (m : Int) ≠ 0 by omega)
    omega, by
    have h1 := Int.emod_nonneg c (show (m : Int) ≠ 0 by omega)
    have h2 := Int.emod_lt_of_pos c (show (0 : Int) < (m : Int) by omega)
    omega⟩
theorem nat_of {i : Int} (h : 0 ≤ i) : ∃ n : Nat, i = n := Int.eq_ofNat_of_zero_le h
theorem modn (c : Int) {m : Int} (h : 0 < m) : ∃ n : Nat, c % m = n ∧ (n : Int) < m := by
  obtain ⟨n, e⟩ := nat_of (Int.emod_nonneg c (show m ≠ 0 by omega))
  exact ⟨n, e, by rw [← e]; exact Int.emod_lt_of_pos c h⟩
theorem cpow (j : Nat) (h : j ≤ 1000000 := by decide) : CPow 10 (j : Int) := ⟨by omega, by omega, by decide⟩
theorem same_upd1 {H : Hp} {l : Addr} {o : HO} (hl : H l = none) : Same H (upd H l o) := fun b u e => by
  rw [upd_ne (ne_of_none e hl)]
  exact e
theorem mulS {i j : Int} (h1 : -1000000 < i) (h2 : i < 1000000) (h3 : -1000000 < j) (h4 : j < 1000000) : CMulW i j := by
  have e : (2 : Nat) ^ 20 = 1048576 := by decide
  refine wide_mul (a := 20) (b := 20) ?_ ?_ (by decide) (by decide) (by decide)
  · rw [e]
    omega
  · rw [e]
    omega
theorem or_det {A B : TT} {σ : St} {H : Hp} {ka kb : Bool} (ha : ∀ Q : Bool → Hp → Prop, Q ka H → A σ H Q) (hb : ka = false → ∀ Q : Bool → Hp → Prop, Q kb H → B σ H Q) (Q : Bool → Hp → Prop) (q : Q (ka || kb) H) : tOr A B σ H Q := by
  refine ha _ ?_
  cases ka with
  | true => exact iteT q
  | false => exact iteF (hb rfl Q q)
theorem and_det {A B : TT} {σ : St} {H : Hp} {ka kb : Bool} (ha : ∀ Q : Bool → Hp → Prop, Q ka H → A σ H Q) (hb : ka = true → ∀ Q : Bool → Hp → Prop, Q kb H → B σ H Q) (Q : Bool → Hp → Prop) (q : Q (ka && kb) H) : tAnd A B σ H Q := by
  refine ha _ ?_
  cases ka with
  | true => exact iteT (hb rfl Q q)
  | false => exact iteF q
theorem small900 {n : Nat} {m : Int} (h : (n : Int) < m) (hm : m ≤ 2 ^ 900) : n < 2 ^ 900 := Int.ofNat_lt.mp (by rw [Int.natCast_pow]; exact Int.lt_of_lt_of_le h hm)
def sp_law (K : PySem.W.Frag) : Sp := fun vs H Q _ => ∃ (s : Addr) (ns : List Int), vs = [.ref s] ∧ SqL K H s (ns.map V.int) ∧ ns.length ≤ 63 ∧ ∀ H', Q (.bl true) H'
/-! ### texts as lists of codes -/
def mkS (l : List Nat) : Str := ⟨l.toArray⟩
theorem mkS_inj {l m : List Nat} (h : mkS l = mkS m) : l = m := by
  have e := congrArg (fun z : Str => z.cps.toList) h
  exact e
theorem mkS_app (l m : List Nat) : mkS l ++ mkS m = mkS (l ++ m) := TL.ext_tl (by rw [TL.tl_append]; rfl)
theorem mkS_len (l : List Nat) : (mkS l).length = l.length := rfl
theorem mkS_nil : (Str.ofString "" : Str) = mkS [] := by decide +kernel
theorem mkS_zero : (Str.ofString "0" : Str) = mkS [48] := by decide +kernel
theorem mkS_signs : (Str.ofString "0123456789abcdef" : Str) = mkS [48, 49, 50, 51, 52, 53, 54, 55, 56, 57, 97, 98, 99, 100, 101, 102] := by decide +kernel
/-- the figure of a sign, -1 of another one -/
def fig (c : Nat) : Int := Txt.find (Str.ofString "0123456789abcdef") (mkS [c])
def code (d : Nat) : Nat := if d < 10 then 48 + d else 87 + d
theorem fig_code : ∀ d, d < 16 → fig (code d) = (d : Int) := by
  intro d hd
  have h : ∀ d : _root_.Fin 16, fig (code d.val) = (d.val : Int) := by decide +kernel
  exact h ⟨d, hd⟩
theorem code_zero : ∀ d, d < 16 → code d = 48 → d = 0 := by
  intro d hd
  unfold code
  split <;> omega
theorem signs_at : ∀ d : Nat, d < 16 → ([48, 49, 50, 51, 52, 53, 54, 55, 56, 57, 97, 98, 99, 100, 101, 102] : List Nat)[d]? = some (code d) := by
  intro d hd
  have h : ∀ d : _root_.Fin 16, ([48, 49, 50, 51, 52, 53, 54, 55, 56, 57, 97, 98, 99, 100, 101, 102] : List Nat)[d.val]? = some (code d.val) := by decide +kernel
  exact h ⟨d, hd⟩
/-- reading on from m -/
def rd (b : Int) : Int → List Nat → Option Int
  | m, [] => some m
  | m, c :: r => if fig c < 0 ∨ b ≤ fig c then none else rd b (m * b + fig c) r
theorem rd_bad {b m : Int} {c : Nat} {r : List Nat} (h : fig c < 0 ∨ b ≤ fig c) : rd b m (c :: r) = none := by
  show (if fig c < 0 ∨ b ≤ fig c then none else rd b (m * b + fig c) r) = none
  rw [if_pos h]
theorem rd_ok {b m : Int} {c : Nat} {r : List Nat} (h : ¬ (fig c < 0 ∨ b ≤ fig c)) : rd b m (c :: r) = rd b (m * b + fig c) r := by
  show (if fig c < 0 ∨ b ≤ fig c then none else rd b (m * b + fig c) r) = _
  rw [if_neg h]
def readV (b : Int) (l : List Nat) : Option Int := if l = [] ∨ (l.head? = some 48 ∧ 1 < l.length) then none else rd b 0 l
theorem rd_nn {b : Int} (hb : 0 ≤ b) : ∀ (l : List Nat) (m v : Int), 0 ≤ m → rd b m l = some v → 0 ≤ v
  | [], m, v, hm, h => by
    have e : m = v := Option.some.inj h
    omega
  | c :: r, m, v, hm, h => by
    by_cases hc : fig c < 0 ∨ b ≤ fig c
    · rw [rd_bad hc] at h
      cases h
    · rw [rd_ok hc] at h
      have := Int.mul_nonneg hm hb
      exact rd_nn hb r _ v (by omega) h
theorem readV_nn {b : Int} (hb : 0 ≤ b) {l : List Nat} {v : Int} (h : readV b l = some v) : 0 ≤ v := by
  unfold readV at h
  split at h
  · cases h
  · exact rd_nn hb l 0 v (Int.le_refl 0) h
theorem drop_cons {α : Type} {l : List α} {i : Nat} {c : α} (h : l[i]? = some c) : l.drop i = c :: l.drop (i + 1) := by
  obtain ⟨hi, e⟩ := List.getElem?_eq_some_iff.mp h
  rw [List.drop_eq_getElem_cons hi, e]
/-- the bound of what is read so far -/
def rdB (i : Nat) (m : Int) : Prop := 0 ≤ m ∧ m < ((2 ^ (5 * i + 1) : Nat) : Int)
theorem rdB_next {i : Nat} {m b f : Int} (h : rdB i m) (hb0 : 0 ≤ b) (hb : b ≤ 16) (h0 : 0 ≤ f) (hf : f < b) : rdB (i + 1) (m * b + f) := by
  obtain ⟨h1, h2⟩ := h
  have a1 : 0 ≤ m * b := Int.mul_nonneg h1 hb0
  have a2 : m * b ≤ m * 16 := Int.mul_le_mul_of_nonneg_left hb h1
  have e : (2 : Nat) ^ (5 * (i + 1) + 1) = 2 ^ (5 * i + 1) * 32 := by
    rw [show 5 * (i + 1) + 1 = (5 * i + 1) + 5 by omega, Nat.pow_add]
  have p : 0 < 2 ^ (5 * i + 1) := Nat.two_pow_pos _
  refine ⟨by omega, ?_⟩
  rw [e, Int.natCast_mul]
  generalize ((2 ^ (5 * i + 1) : Nat) : Int) = z at *
  omega
theorem rdB_mul {i : Nat} {m b : Int} (h : rdB i m) (hb0 : 0 ≤ b) (hb : b ≤ 16) (hi : i ≤ 1000) : CMulW m b := by
  obtain ⟨h1, h2⟩ := h
  refine wide_mul (a := 5 * i + 1) (b := 5) ?_ ?_ (by omega) (by decide) (by omega)
  · omega
  · have e : (2 : Nat) ^ 5 = 32 := by decide
    omega
theorem dec_empty (l : List Nat) : decide (V.str (mkS l) = V.str (Str.ofString "")) = decide (l = []) := by
  rw [mkS_nil, dec_ss]
  by_cases z : l = []
  · subst z
    simp
  · rw [decide_eq_false z, decide_eq_false (fun y => z (mkS_inj y))]
theorem dec_zero1 (c : Nat) : decide (V.str (mkS [c]) = V.str (Str.ofString "0")) = decide (c = 48) := by
  rw [mkS_zero, dec_ss]
  by_cases z : c = 48
  · subst z
    simp
  · rw [decide_eq_false z, decide_eq_false (fun y => z (by have := mkS_inj y; simpa using this))]
theorem dec_len1 (l : List Nat) : decide ((1 : Int) < ((mkS l).length : Int)) = decide (1 < l.length) := by
  rw [mkS_len]
  exact decide_eq_decide.mpr (by omega)
/-! ### names -/
theorem app_len (x y : Str) : (x ++ y).length = x.length + y.length := by
  rw [TL.len_tl, TL.len_tl, TL.len_tl, TL.tl_append, List.length_append]
theorem strOk_tl (x : Str) : PyData.strOk x = (TL.tl x).all (· < 0x110000) := by
  unfold PyData.strOk
  exact (Array.all_toList ..).symm
theorem nameOk_app {x y : Str} (h1 : PyData.strOk x = true) (h2 : PyData.strOk y = true) : PyData.strOk (x ++ y) = true := by
  rw [strOk_tl] at *
  rw [TL.tl_append, List.all_append, h1, h2]
  rfl
/-- texts put together, nothing between -/
theorem join_ok : ∀ (ys : List Str), (∀ y, y ∈ ys → y.length = 1 ∧ PyData.strOk y = true) → (Txt.join (Str.ofString "") ys).length = ys.length ∧ PyData.strOk (Txt.join (Str.ofString "") ys) = true := by
  intro ys h
  rw [TL.join_eq]
  have e0 : TL.tl (Str.ofString "" : Str) = [] := by decide +kernel
  induction ys with
  | nil => exact ⟨rfl, by decide +kernel⟩
  | cons y r ih =>
    obtain ⟨i1, i2⟩ := ih (fun z hz => h z (List.mem_cons_of_mem _ hz))
    obtain ⟨y1, y2⟩ := h y List.mem_cons_self
    have e : TL.tl (Str.join (Str.ofString "") (y :: r)) = TL.tl y ++ TL.tl (Str.join (Str.ofString "") r) := by
      rw [TL.tl_join, TL.tl_join, e0]
      cases r with
      | nil => simp [TL.joinL]
      | cons z r => simp [TL.joinL]
    rw [TL.len_tl] at i1 y1
    rw [strOk_tl] at i2 y2
    rw [TL.len_tl, strOk_tl, e, List.length_append, List.all_append, i1, y1, i2, y2, List.length_cons]
    exact ⟨Nat.add_comm _ _, rfl⟩
/-! ### the attributes of a store -/
theorem eq_base_last : (("base" : Str) == ("last" : Str)) = false := by decide +kernel
theorem ne_base_last : ¬ (("base" : Str) = ("last" : Str)) := by decide +kernel
theorem eq_base_many : (("base" : Str) == ("many" : Str)) = false := by decide +kernel
theorem ne_base_many : ¬ (("base" : Str) = ("many" : Str)) := by decide +kernel
theorem eq_base_moves : (("base" : Str) == ("moves" : Str)) = false := by decide +kernel
theorem ne_base_moves : ¬ (("base" : Str) = ("moves" : Str)) := by decide +kernel
theorem eq_base_buckets : (("base" : Str) == ("buckets" : Str)) = false := by decide +kernel
theorem ne_base_buckets : ¬ (("base" : Str) = ("buckets" : Str)) := by decide +kernel
theorem eq_last_base : (("last" : Str) == ("base" : Str)) = false := by decide +kernel
theorem ne_last_base : ¬ (("last" : Str) = ("base" : Str)) := by decide +kernel
theorem eq_last_many : (("last" : Str) == ("many" : Str)) = false := by decide +kernel
theorem ne_last_many : ¬ (("last" : Str) = ("many" : Str)) := by decide +kernel
theorem eq_last_moves : (("last" : Str) == ("moves" : Str)) = false := by decide +kernel
theorem ne_last_moves : ¬ (("last" : Str) = ("moves" : Str)) := by decide +kernel
theorem eq_last_buckets : (("last" : Str) == ("buckets" : Str)) = false := by decide +kernel
theorem ne_last_buckets : ¬ (("last" : Str) = ("buckets" : Str)) := by decide +kernel
theorem eq_many_base : (("many" : Str) == ("base" : Str)) = false := by decide +kernel
theorem ne_many_base : ¬ (("many" : Str) = ("base" : Str)) := by decide +kernel
theorem eq_many_last : (("many" : Str) == ("last" : Str)) = false := by decide +kernel
theorem ne_many_last : ¬ (("many" : Str) = ("last" : Str)) := by decide +kernel
theorem eq_many_moves : (("many" : Str) == ("moves" : Str)) = false := by decide +kernel
theorem ne_many_moves : ¬ (("many" : Str) = ("moves" : Str)) := by decide +kernel
theorem eq_many_buckets : (("many" : Str) == ("buckets" : Str)) = false := by decide +kernel
theorem ne_many_buckets : ¬ (("many" : Str) = ("buckets" : Str)) := by decide +kernel
theorem eq_moves_base : (("moves" : Str) == ("base" : Str)) = false := by decide +kernel
theorem ne_moves_base : ¬ (("moves" : Str) = ("base" : Str)) := by decide +kernel
theorem eq_moves_last : (("moves" : Str) == ("last" : Str)) = false := by decide +kernel
theorem ne_moves_last : ¬ (("moves" : Str) = ("last" : Str)) := by decide +kernel
theorem eq_moves_many : (("moves" : Str) == ("many" : Str)) = false := by decide +kernel
theorem ne_moves_many : ¬ (("moves" : Str) = ("many" : Str)) := by decide +kernel
theorem eq_moves_buckets : (("moves" : Str) == ("buckets" : Str)) = false := by decide +kernel
theorem ne_moves_buckets : ¬ (("moves" : Str) = ("buckets" : Str)) := by decide +kernel
theorem eq_buckets_base : (("buckets" : Str) == ("base" : Str)) = false := by decide +kernel
theorem ne_buckets_base : ¬ (("buckets" : Str) = ("base" : Str)) := by decide +kernel
theorem eq_buckets_last : (("buckets" : Str) == ("last" : Str)) = false := by decide +kernel
theorem ne_buckets_last : ¬ (("buckets" : Str) = ("last" : Str)) := by decide +kernel
theorem eq_buckets_many : (("buckets" : Str) == ("many" : Str)) = false := by decide +kernel
theorem ne_buckets_many : ¬ (("buckets" : Str) = ("many" : Str)) := by decide +kernel
theorem eq_buckets_moves : (("buckets" : Str) == ("moves" : Str)) = false := by decide +kernel
theorem ne_buckets_moves : ¬ (("buckets" : Str) = ("moves" : Str)) := by decide +kernel
def sf (b l m v : Int) (bl : Addr) : List (Str × V) := [("base", .int b), ("last", .int l), ("many", .int m), ("moves", .int v), ("buckets", .ref bl)]
theorem sf_base (b l m v : Int) (bl : Addr) : (sf b l m v bl).lookup ("base" : Str) = some (.int b) := by
  unfold sf
  simp only [List.lookup, beq_self_eq_true]
theorem sf_last (b l m v : Int) (bl : Addr) : (sf b l m v bl).lookup ("last" : Str) = some (.int l) := by
  unfold sf
  simp only [List.lookup, eq_last_base, beq_self_eq_true]
theorem sf_many (b l m v : Int) (bl : Addr) : (sf b l m v bl).lookup ("many" : Str) = some (.int m) := by
  unfold sf
  simp only [List.lookup, eq_many_base, eq_many_last, beq_self_eq_true]
theorem sf_moves (b l m v : Int) (bl : Addr) : (sf b l m v bl).lookup ("moves" : Str) = some (.int v) := by
  unfold sf
  simp only [List.lookup, eq_moves_base, eq_moves_last, eq_moves_many, beq_self_eq_true]
theorem sf_buckets (b l m v : Int) (bl : Addr) : (sf b l m v bl).lookup ("buckets" : Str) = some (.ref bl) := by
  unfold sf
  simp only [List.lookup, eq_buckets_base, eq_buckets_last, eq_buckets_many, eq_buckets_moves, beq_self_eq_true]
theorem sf_put_last (b l m v z : Int) (bl : Addr) : putF "last" (.int z) (sf b l m v bl) = sf b z m v bl := by
  unfold sf
  simp only [putF, if_neg ne_base_last, if_true]
theorem sf_put_many (b l m v z : Int) (bl : Addr) : putF "many" (.int z) (sf b l m v bl) = sf b l z v bl := by
  unfold sf
  simp only [putF, if_neg ne_base_many, if_neg ne_last_many, if_true]
theorem sf_put_moves (b l m v z : Int) (bl : Addr) : putF "moves" (.int z) (sf b l m v bl) = sf b l m z bl := by
  unfold sf
  simp only [putF, if_neg ne_base_moves, if_neg ne_last_moves, if_neg ne_many_moves, if_true]
theorem sf_no (b l m v : Int) (bl : Addr) {k : Str} (h1 : (k == ("base" : Str)) = false) (h2 : (k == ("last" : Str)) = false) (h3 : (k == ("many" : Str)) = false) (h4 : (k == ("moves" : Str)) = false) (h5 : (k == ("buckets" : Str)) = false) : (sf b l m v bl).lookup k = none := by
  unfold sf
  simp only [List.lookup, h1, h2, h3, h4, h5]
theorem sf_len (b l m v : Int) (bl : Addr) : (sf b l m v bl).length < 1000 := by
  show 5 < 1000
  decide
theorem sf_make (b : Int) (bl : Addr) : putF "buckets" (.ref bl) (putF "moves" (.int 0) (putF "many" (.int 0) (putF "last" (.int 0) (putF "base" (.int b) [])))) = sf b 0 0 0 bl := by
  unfold sf
  simp only [putF, if_neg ne_base_last, if_neg ne_base_many, if_neg ne_base_moves, if_neg ne_base_buckets, if_neg ne_last_many, if_neg ne_last_moves, if_neg ne_last_buckets, if_neg ne_many_moves, if_neg ne_many_buckets, if_neg ne_moves_buckets]
theorem sf_m_room (b l m v : Int) (bl : Addr) : (sf b l m v bl).lookup ("room" : Str) = none := sf_no b l m v bl (by decide +kernel) (by decide +kernel) (by decide +kernel) (by decide +kernel) (by decide +kernel)
theorem sf_m_put (b l m v : Int) (bl : Addr) : (sf b l m v bl).lookup ("put" : Str) = none := sf_no b l m v bl (by decide +kernel) (by decide +kernel) (by decide +kernel) (by decide +kernel) (by decide +kernel)
theorem sf_m_lowest (b l m v : Int) (bl : Addr) : (sf b l m v bl).lookup ("lowest" : Str) = none := sf_no b l m v bl (by decide +kernel) (by decide +kernel) (by decide +kernel) (by decide +kernel) (by decide +kernel)
theorem sf_m_fall (b l m v : Int) (bl : Addr) : (sf b l m v bl).lookup ("fall" : Str) = none := sf_no b l m v bl (by decide +kernel) (by decide +kernel) (by decide +kernel) (by decide +kernel) (by decide +kernel)
theorem sf_m_take (b l m v : Int) (bl : Addr) : (sf b l m v bl).lookup ("take" : Str) = none := sf_no b l m v bl (by decide +kernel) (by decide +kernel) (by decide +kernel) (by decide +kernel) (by decide +kernel)
theorem sf_m_least (b l m v : Int) (bl : Addr) : (sf b l m v bl).lookup ("least" : Str) = none := sf_no b l m v bl (by decide +kernel) (by decide +kernel) (by decide +kernel) (by decide +kernel) (by decide +kernel)
theorem sf_m_rows (b l m v : Int) (bl : Addr) : (sf b l m v bl).lookup ("rows" : Str) = none := sf_no b l m v bl (by decide +kernel) (by decide +kernel) (by decide +kernel) (by decide +kernel) (by decide +kernel)
/-! ### things, buckets and stores in the heap -/
def NameOk (x : Str) : Prop := x.length ≤ 1000 ∧ PyData.strOk x = true
def ThAt (H : Hp) (t : Addr) (h : Th Str) : Prop := H t = some (.lst [.int h.n, .str h.x, .int h.c]) ∧ NameOk h.x
/-- the objects at the addresses bear the data, one by one -/
def Ls {β : Type} (R : Addr → β → Prop) : List Addr → List β → Prop
  | [], [] => True
  | t :: ts, h :: hs => R t h ∧ Ls R ts hs
  | _, _ => False
section
variable {β : Type} {R R' : Addr → β → Prop}
theorem Ls.len : ∀ {ts : List Addr} {hs : List β}, Ls R ts hs → ts.length = hs.length
  | [], [], _ => rfl
  | t :: ts, h :: hs, q => by rw [List.length_cons, List.length_cons, Ls.len q.2]
  | [], _ :: _, q => q.elim
  | _ :: _, [], q => q.elim
theorem Ls.get : ∀ {ts : List Addr} {hs : List β} {i : Nat} {t : Addr}, Ls R ts hs → ts[i]? = some t → ∃ h, hs[i]? = some h ∧ R t h
  | [], [], i, t, _, e => by simp at e
  | t :: ts, h :: hs, 0, u, q, e => by
    have e' : t = u := by simpa using e
    subst e'
    exact ⟨h, rfl, q.1⟩
  | t :: ts, h :: hs, i + 1, u, q, e => Ls.get (ts := ts) (hs := hs) (i := i) q.2 (by simpa using e)
  | [], _ :: _, _, _, q, _ => q.elim
  | _ :: _, [], _, _, q, _ => q.elim
theorem Ls.getR : ∀ {ts : List Addr} {hs : List β} {i : Nat} {h : β}, Ls R ts hs → hs[i]? = some h → ∃ t, ts[i]? = some t ∧ R t h
  | [], [], i, t, _, e => by simp at e
  | t :: ts, h :: hs, 0, u, q, e => by
    have e' : h = u := by simpa using e
    subst e'
    exact ⟨t, rfl, q.1⟩
  | t :: ts, h :: hs, i + 1, u, q, e => Ls.getR (ts := ts) (hs := hs) (i := i) q.2 (by simpa using e)
  | [], _ :: _, _, _, q, _ => q.elim
  | _ :: _, [], _, _, q, _ => q.elim
theorem Ls.mono (k : ∀ t h, R t h → R' t h) : ∀ {ts : List Addr} {hs : List β}, Ls R ts hs → Ls R' ts hs
  | [], [], _ => trivial
  | t :: ts, h :: hs, q => ⟨k t h q.1, Ls.mono k q.2⟩
  | [], _ :: _, q => q.elim
  | _ :: _, [], q => q.elim
theorem Ls.app {t : Addr} {h : β} (a : R t h) : ∀ {ts : List Addr} {hs : List β}, Ls R ts hs → Ls R (ts ++ [t]) (hs ++ [h])
  | [], [], _ => ⟨a, trivial⟩
  | t :: ts, h :: hs, q => ⟨q.1, Ls.app a q.2⟩
  | [], _ :: _, q => q.elim
  | _ :: _, [], q => q.elim
theorem Ls.cat : ∀ {ts us : List Addr} {hs gs : List β}, Ls R ts hs → Ls R us gs → Ls R (ts ++ us) (hs ++ gs)
  | [], us, [], gs, _, b => b
  | t :: ts, us, h :: hs, gs, q, b => ⟨q.1, Ls.cat q.2 b⟩
  | [], _, _ :: _, _, q, _ => q.elim
  | _ :: _, _, [], _, q, _ => q.elim
theorem Ls.drop : ∀ (i : Nat) {ts : List Addr} {hs : List β}, Ls R ts hs → Ls R (ts.drop i) (hs.drop i)
  | 0, ts, hs, q => q
  | i + 1, [], [], _ => by simp [Ls]
  | i + 1, t :: ts, h :: hs, q => Ls.drop i q.2
  | _ + 1, [], _ :: _, q => q.elim
  | _ + 1, _ :: _, [], q => q.elim
theorem Ls.take : ∀ (i : Nat) {ts : List Addr} {hs : List β}, Ls R ts hs → Ls R (ts.take i) (hs.take i)
  | 0, ts, hs, _ => by rw [List.take_zero, List.take_zero]; trivial
  | i + 1, [], [], _ => by simp [Ls]
  | i + 1, t :: ts, h :: hs, q => ⟨q.1, Ls.take i q.2⟩
  | _ + 1, [], _ :: _, q => q.elim
  | _ + 1, _ :: _, [], q => q.elim
end
abbrev Ths (H : Hp) : List Addr → List (Th Str) → Prop := Ls (ThAt H)
/-- a list of addresses is none of a thing's -/
theorem th_ne {H : Hp} {t b : Addr} {h : Th Str} {ts : List Addr} (a : ThAt H t h) (e : H b = some (.lst (ts.map V.ref))) : t ≠ b := by
  refine ne_of a.1 e fun z => ?_
  have z2 : [V.int h.n, V.str h.x, V.int h.c] = ts.map V.ref := HO.lst.inj z
  cases ts with
  | nil => cases z2
  | cons u r => cases (List.cons.inj z2).1
theorem th_ne_ins {H : Hp} {t b C dx : Addr} {h : Th Str} {fs : List (Str × V)} (a : ThAt H t h) (e : H b = some (.ins C dx fs)) : t ≠ b := ne_of a.1 e fun z => nomatch z
def BkAt (H : Hp) (b : Addr) (hs : List (Th Str)) : Prop := ∃ ts : List Addr, H b = some (.lst (ts.map V.ref)) ∧ Ths H ts hs
/-- the buckets bs hold the lists bk -/
structure BksAt (H : Hp) (bl : Addr) (bs : List Addr) (bk : List (List (Th Str))) : Prop where
  li : H bl = some (.lst (bs.map V.ref))
  nd : (bl :: bs).Nodup
  len : bs.length = bk.length
  at_ : ∀ (j : Nat) (b : Addr), bs[j]? = some b → BkAt H b (bk.getD j [])
structure StoreAt (C : Addr) (H : Hp) (p bl : Addr) (bs : List Addr) (S : Sto Str) : Prop where
  ob : ∃ dx, H p = some (.ins C dx (sf S.base S.last S.many S.moves bl))
  bk : BksAt H bl bs S.bk
/-- what is no part of the store stands, and becomes no part of it -/
def Kp (F : List Addr) (H : Hp) (F' : List Addr) (H' : Hp) : Prop := ∀ c o, H c = some o → c ∉ F → H' c = some o ∧ c ∉ F'
theorem Kp.refl (F : List Addr) (H : Hp) : Kp F H F H := fun _ _ e h => ⟨e, h⟩
theorem Kp.trans {F G J : List Addr} {H H1 H2 : Hp} (a : Kp F H G H1) (b : Kp G H1 J H2) : Kp F H J H2 := fun c o e h => b c o (a c o e h).1 (a c o e h).2
theorem Kp.same {F : List Addr} {H H' : Hp} (s : Same H H') : Kp F H F H' := fun c o e h => ⟨s c o e, h⟩
theorem StoreAt.p_bl {C : Addr} {H : Hp} {p bl : Addr} {bs : List Addr} {S : Sto Str} (A : StoreAt C H p bl bs S) : p ≠ bl := by
  obtain ⟨dx, e⟩ := A.ob
  exact ne_of e A.bk.li (by intro z; cases z)
theorem BksAt.mem {H : Hp} {bl : Addr} {bs : List Addr} {bk : List (List (Th Str))} (A : BksAt H bl bs bk) {b : Addr} (h : b ∈ bs) : ∃ ts : List Addr, H b = some (.lst (ts.map V.ref)) := by
  obtain ⟨j, hj, e⟩ := List.mem_iff_getElem.mp h
  obtain ⟨ts, e2, _⟩ := A.at_ j b (by rw [List.getElem?_eq_getElem hj, e])
  exact ⟨ts, e2⟩
theorem StoreAt.p_bs {C : Addr} {H : Hp} {p bl : Addr} {bs : List Addr} {S : Sto Str} (A : StoreAt C H p bl bs S) : p ∉ bs := fun h => by
  obtain ⟨dx, e⟩ := A.ob
  obtain ⟨ts, e2⟩ := A.bk.mem h
  rw [e] at e2
  cases e2
theorem BksAt.get {H : Hp} {bl : Addr} {bs : List Addr} {bk : List (List (Th Str))} (A : BksAt H bl bs bk) {j : Nat} (h : j < bk.length) : ∃ b ts, bs[j]? = some b ∧ H b = some (.lst (ts.map V.ref)) ∧ Ths H ts (bk.getD j []) ∧ b ∈ bs ∧ b ≠ bl := by
  have hj : j < bs.length := by rw [A.len]; exact h
  have e : bs[j]? = some bs[j] := List.getElem?_eq_getElem hj
  obtain ⟨ts, e2, q⟩ := A.at_ j _ e
  have hm : bs[j] ∈ bs := List.getElem_mem hj
  exact ⟨bs[j], ts, e, e2, q, hm, fun z => (List.nodup_cons.mp A.nd).1 (by rw [← z]; exact hm)⟩
/-- a thing at t is no part of a store -/
theorem BksAt.th_out {H : Hp} {bl : Addr} {bs : List Addr} {bk : List (List (Th Str))} (A : BksAt H bl bs bk) {t : Addr} {h : Th Str} (q : ThAt H t h) : t ∉ bl :: bs := fun z => by
  rcases List.mem_cons.mp z with rfl | z
  · exact th_ne q A.li rfl
  · obtain ⟨ts, e⟩ := A.mem z
    exact th_ne q e rfl
theorem StoreAt.th_out {C : Addr} {H : Hp} {p bl : Addr} {bs : List Addr} {S : Sto Str} (A : StoreAt C H p bl bs S) {t : Addr} {h : Th Str} (q : ThAt H t h) : t ∉ p :: bl :: bs := fun z => by
  rcases List.mem_cons.mp z with rfl | z
  · obtain ⟨dx, e⟩ := A.ob
    exact th_ne_ins q e rfl
  · exact A.bk.th_out q z
/-- all objects of the buckets stand: so do the buckets -/
theorem BksAt.keep {H H' : Hp} {bl : Addr} {bs : List Addr} {bk : List (List (Th Str))} (A : BksAt H bl bs bk) (k : ∀ b xs, H b = some (.lst xs) → H' b = some (.lst xs)) : BksAt H' bl bs bk := by
  refine ⟨k _ _ A.li, A.nd, A.len, fun j b e => ?_⟩
  obtain ⟨ts, e2, q⟩ := A.at_ j b e
  exact ⟨ts, k _ _ e2, q.mono fun t h a => ⟨k _ _ a.1, a.2⟩⟩
theorem StoreAt.keep {C : Addr} {H H' : Hp} {p bl : Addr} {bs : List Addr} {S : Sto Str} (A : StoreAt C H p bl bs S) (k : Same H H') : StoreAt C H' p bl bs S := by
  obtain ⟨dx, e⟩ := A.ob
  exact ⟨⟨dx, k _ _ e⟩, A.bk.keep fun b xs e => k b _ e⟩
theorem ths_upd {H : Hp} {a : Addr} {o : HO} {ts : List Addr} {hs : List (Th Str)} (q : Ths H ts hs) (n : ∀ t h, ThAt H t h → t ≠ a) : Ths (upd H a o) ts hs :=
  q.mono fun t h z => ⟨by rw [upd_ne (n t h z)]; exact z.1, z.2⟩
theorem nodup_set {γ : Type} : ∀ {l : List γ} {k : Nat} {b : γ}, l.Nodup → b ∉ l → (l.set k b).Nodup
  | [], _, _, h, _ => by simpa using h
  | a :: r, 0, b, h, hb => by
    rw [List.set_cons_zero]
    obtain ⟨h1, h2⟩ := List.nodup_cons.mp h
    exact List.nodup_cons.mpr ⟨fun z => hb (List.mem_cons_of_mem _ z), h2⟩
  | a :: r, k + 1, b, h, hb => by
    rw [List.set_cons_succ]
    obtain ⟨h1, h2⟩ := List.nodup_cons.mp h
    refine List.nodup_cons.mpr ⟨fun z => ?_, nodup_set h2 fun z => hb (List.mem_cons_of_mem _ z)⟩
    rcases List.mem_or_eq_of_mem_set z with z | z
    · exact h1 z
    · exact hb (by rw [← z]; exact List.mem_cons_self)
theorem kp_upd {F : List Addr} {H : Hp} {a : Addr} {o : HO} (h : a ∈ F) : Kp F H F (upd H a o) := fun c u e n => ⟨by rw [upd_ne (fun z => n (by rw [z]; exact h))]; exact e, n⟩
theorem kp_new {F : List Addr} {H : Hp} {l : Addr} {o : HO} (h : H l = none) : Kp F H F (upd H l o) := fun c u e n => ⟨by rw [upd_ne (ne_of_none e h)]; exact e, n⟩
theorem kp_more {F G : List Addr} {H : Hp} (k : ∀ c, c ∈ G → c ∈ F ∨ H c = none) : Kp F H G H := fun c u e n => ⟨e, fun z => (k c z).elim n fun q => by rw [q] at e; cases e⟩
theorem BksAt.set_ins {H : Hp} {bl p C dx : Addr} {bs : List Addr} {bk : List (List (Th Str))} {fs fs' : List (Str × V)} (A : BksAt H bl bs bk) (hp : H p = some (.ins C dx fs)) : BksAt (upd H p (.ins C dx fs')) bl bs bk :=
  A.keep fun b xs e => by
    rw [upd_ne (ne_of e hp (by intro z; cases z))]
    exact e
/-- one bucket more -/
theorem BksAt.grow {H : Hp} {bl l : Addr} {bs : List Addr} {bk : List (List (Th Str))} (A : BksAt H bl bs bk) (hl : H l = none) :
    BksAt (upd (upd H l (.lst [])) bl (.lst (bs.map V.ref ++ [.ref l]))) bl (bs ++ [l]) (bk ++ [[]]) := by
  have nbl : bl ≠ l := ne_of_none A.li hl
  have nm : ∀ b, b ∈ bs → b ≠ l := fun b hb => by
    obtain ⟨ts, e⟩ := A.mem hb
    exact ne_of_none e hl
  have nb : ∀ b, b ∈ bs → b ≠ bl := fun b hb z => (List.nodup_cons.mp A.nd).1 (by rw [← z]; exact hb)
  refine ⟨?_, ?_, ?_, fun j b e => ?_⟩
  · rw [upd_same, List.map_append]
    rfl
  · obtain ⟨n1, n2⟩ := List.nodup_cons.mp A.nd
    refine List.nodup_cons.mpr ⟨fun z => ?_, List.nodup_append.mpr ⟨n2, by simp, fun a ha b hb => ?_⟩⟩
    · rcases List.mem_append.mp z with z | z
      · exact n1 z
      · exact nbl (by simpa using z)
    · have eb : b = l := by simpa using hb
      rw [eb]
      exact nm a ha
  · rw [List.length_append, List.length_append, A.len]
    rfl
  · by_cases hj : j < bs.length
    · rw [List.getElem?_append_left hj] at e
      have hb : b ∈ bs := List.mem_of_getElem? e
      obtain ⟨ts, e2, q⟩ := A.at_ j b e
      have eg : (bk ++ [[]]).getD j [] = bk.getD j [] := by
        rw [List.getD_eq_getElem?_getD, List.getD_eq_getElem?_getD, List.getElem?_append_left (by rw [← A.len]; exact hj)]
      rw [eg]
      refine ⟨ts, by rw [upd_ne (nb b hb), upd_ne (nm b hb)]; exact e2, ?_⟩
      exact q.mono fun t h z => ⟨by rw [upd_ne (th_ne z A.li), upd_ne (ne_of_none z.1 hl)]; exact z.1, z.2⟩
    · have hj2 : j = bs.length := by
        have := (List.getElem?_eq_some_iff.mp e).1
        rw [List.length_append] at this
        simp at this
        omega
      subst hj2
      rw [List.getElem?_append_right (Nat.le_refl _)] at e
      have eb : l = b := by simpa using e
      subst eb
      have eg : (bk ++ [[]]).getD bs.length [] = [] := by
        rw [List.getD_eq_getElem?_getD, A.len, List.getElem?_append_right (Nat.le_refl _)]
        simp
      rw [eg]
      exact ⟨[], by rw [upd_ne nbl.symm, upd_same]; rfl, trivial⟩
/-- a new thing behind those of a bucket -/
theorem BksAt.push {H : Hp} {bl b t : Addr} {bs ts : List Addr} {bk : List (List (Th Str))} {k : Nat} (A : BksAt H bl bs bk) (hb : bs[k]? = some b) (e : H b = some (.lst (ts.map V.ref))) (q : Ths H ts (bk.getD k [])) (ht : H t = none) (h : Th Str) (ok : NameOk h.x) :
    BksAt (upd (upd H t (.lst [.int h.n, .str h.x, .int h.c])) b (.lst (ts.map V.ref ++ [.ref t]))) bl bs (addAt bk k h) := by
  have hk : k < bk.length := by rw [← A.len]; exact (List.getElem?_eq_some_iff.mp hb).1
  have hm : b ∈ bs := List.mem_of_getElem? hb
  have nbl : bl ≠ b := fun z => (List.nodup_cons.mp A.nd).1 (by rw [z]; exact hm)
  have nbt : b ≠ t := ne_of_none e ht
  have nth : ∀ u g, ThAt H u g → ThAt (upd (upd H t (.lst [.int h.n, .str h.x, .int h.c])) b (.lst (ts.map V.ref ++ [.ref t]))) u g := fun u g z =>
    ⟨by rw [upd_ne (th_ne z e), upd_ne (ne_of_none z.1 ht)]; exact z.1, z.2⟩
  refine ⟨by rw [upd_ne nbl, upd_ne (ne_of_none A.li ht)]; exact A.li, A.nd, by rw [addAt_len]; exact A.len, fun j c ec => ?_⟩
  rw [addAt_getD _ hk]
  by_cases hj : j = k
  · subst hj
    rw [if_pos rfl]
    have ecb : b = c := Option.some.inj (hb.symm.trans ec)
    subst ecb
    refine ⟨ts ++ [t], ?_, (q.mono nth).app ⟨?_, ok⟩⟩
    · rw [upd_same, List.map_append]
      rfl
    · rw [upd_ne nbt.symm, upd_same]
  · rw [if_neg hj]
    obtain ⟨us, e2, q2⟩ := A.at_ j c ec
    have ncb : c ≠ b := fun z => hj (nd_ix (List.nodup_cons.mp A.nd).2 ec (by rw [z]; exact hb))
    exact ⟨us, by rw [upd_ne ncb, upd_ne (ne_of_none e2 ht)]; exact e2, q2.mono nth⟩
/-- another list of things in the place of a bucket -/
theorem BksAt.swap {H : Hp} {bl b : Addr} {bs ts : List Addr} {bk : List (List (Th Str))} {k : Nat} (A : BksAt H bl bs bk) (hk : k < bk.length) (e : H b = some (.lst (ts.map V.ref))) {hs : List (Th Str)} (q : Ths H ts hs) (nb : b ∉ bl :: bs) :
    BksAt (upd H bl (.lst ((bs.map V.ref).set k (.ref b)))) bl (bs.set k b) (bk.set k hs) := by
  obtain ⟨n1, n2⟩ := List.nodup_cons.mp A.nd
  have nth : ∀ u g, ThAt H u g → ThAt (upd H bl (.lst ((bs.map V.ref).set k (.ref b)))) u g := fun u g z => ⟨by rw [upd_ne (th_ne z A.li)]; exact z.1, z.2⟩
  refine ⟨?_, List.nodup_cons.mpr ⟨fun z => ?_, ?_⟩, by rw [List.length_set, List.length_set]; exact A.len, fun j c ec => ?_⟩
  · rw [upd_same, List.map_set]
  · rcases List.mem_or_eq_of_mem_set z with z | z
    · exact n1 z
    · exact nb (by rw [z]; exact List.mem_cons_self)
  · exact nodup_set n2 (fun z => nb (List.mem_cons_of_mem _ z))
  · rw [set_getD]
    by_cases hj : j = k
    · subst hj
      rw [if_pos ⟨rfl, hk⟩]
      rw [List.getElem?_set_self (by rw [A.len]; exact hk)] at ec
      have ecb : b = c := Option.some.inj ec
      subst ecb
      exact ⟨ts, by rw [upd_ne (fun z => nb (by rw [z]; exact List.mem_cons_self))]; exact e, q.mono nth⟩
    · rw [if_neg (fun z => hj z.1)]
      rw [List.getElem?_set_ne (fun z => hj z.symm)] at ec
      obtain ⟨us, e2, q2⟩ := A.at_ j c ec
      exact ⟨us, by rw [upd_ne (fun z => n1 (by rw [← z]; exact List.mem_of_getElem? ec))]; exact e2, q2.mono nth⟩
theorem kp_grow {p bl l : Addr} {bs : List Addr} {H : Hp} {o o2 : HO} (hl : H l = none) : Kp (p :: bl :: bs) H (p :: bl :: (bs ++ [l])) (upd (upd H l o) bl o2) := fun c u e n => by
  have n1 : c ≠ l := ne_of_none e hl
  have n2 : c ≠ bl := fun z => n (by rw [z]; simp)
  refine ⟨by rw [upd_ne n2, upd_ne n1]; exact e, fun z => ?_⟩
  rcases List.mem_cons.mp z with z | z
  · exact n (by rw [z]; simp)
  · rcases List.mem_cons.mp z with z | z
    · exact n2 z
    · rcases List.mem_append.mp z with z | z
      · exact n (by simp [z])
      · exact n1 (by simpa using z)
theorem map_ref_inj : ∀ {l m : List Addr}, l.map V.ref = m.map V.ref → l = m
  | [], [], _ => rfl
  | [], _ :: _, h => by simp at h
  | _ :: _, [], h => by simp at h
  | a :: l, b :: m, h => by
    rw [List.map_cons, List.map_cons] at h
    obtain ⟨h1, h2⟩ := List.cons.inj h
    rw [V.ref.inj h1, map_ref_inj h2]
/-- a row that is told -/
def RowAt (H : Hp) (t : Addr) (r : Nat × Th Str) : Prop := H t = some (.tup [.int r.1, .int r.2.n, .str r.2.x, .int r.2.c]) ∧ NameOk r.2.x
theorem ixN_nat {n k : Nat} (h : k < n) : ixN n (k : Int) = some k := by
  have e : atI (List.range n) (k : Int) = some k := atI_nat (by rw [List.getElem?_range h])
  unfold atI at e
  rw [List.length_range] at e
  cases z : ixN n (k : Int) with
  | none =>
    rw [z] at e
    cases e
  | some j =>
    rw [z] at e
    have e2 : (List.range n)[j]? = some k := e
    obtain ⟨hj, ej⟩ := List.getElem?_eq_some_iff.mp e2
    rw [List.getElem_range] at ej
    rw [ej]
theorem get_refs {us : List Addr} {i : Nat} {y : V} (h : (us.map V.ref)[i]? = some y) : ∃ u, us[i]? = some u ∧ y = V.ref u := by
  rw [List.getElem?_map] at h
  cases e : us[i]? with
  | none =>
    rw [e] at h
    cases h
  | some u =>
    rw [e] at h
    exact ⟨u, rfl, (Option.some.inj h).symm⟩
theorem StoreAt.tup_out {C : Addr} {H : Hp} {p bl c : Addr} {bs : List Addr} {S : Sto Str} {xs : List V} (A : StoreAt C H p bl bs S) (e : H c = some (.tup xs)) : c ∉ p :: bl :: bs := fun z => by
  obtain ⟨dx, o⟩ := A.ob
  rcases List.mem_cons.mp z with z | z
  · rw [z, o] at e
    cases e
  · rcases List.mem_cons.mp z with z | z
    · rw [z, A.bk.li] at e
      cases e
    · obtain ⟨ts, o2⟩ := A.bk.mem z
      rw [o2] at e
      cases e
/-- a list of the law's own is written -/
theorem StoreAt.upd_out {C : Addr} {H : Hp} {p bl d : Addr} {bs : List Addr} {S : Sto Str} {ds : List Addr} {o : HO} (A : StoreAt C H p bl bs S) (hd : d ∉ p :: bl :: bs) (ed : H d = some (.lst (ds.map V.ref))) : StoreAt C (upd H d o) p bl bs S := by
  obtain ⟨dx, ob⟩ := A.ob
  have np : p ≠ d := fun z => hd (by rw [z]; simp)
  have nb : bl ≠ d := fun z => hd (by rw [z]; simp)
  refine ⟨⟨dx, by rw [upd_ne np]; exact ob⟩, by rw [upd_ne nb]; exact A.bk.li, A.bk.nd, A.bk.len, fun j b e => ?_⟩
  obtain ⟨ts, e2, q⟩ := A.bk.at_ j b e
  have nbd : b ≠ d := fun z => hd (by rw [← z]; simp [List.mem_of_getElem? e])
  exact ⟨ts, by rw [upd_ne nbd]; exact e2, ths_upd q fun t h z => th_ne z ed⟩
theorem StoreAt.new_out {C : Addr} {H : Hp} {p bl d : Addr} {bs : List Addr} {S : Sto Str} (A : StoreAt C H p bl bs S) (hd : H d = none) : d ∉ p :: bl :: bs := fun z => by
  obtain ⟨dx, o⟩ := A.ob
  rcases List.mem_cons.mp z with z | z
  · rw [z, o] at hd
    cases hd
  · rcases List.mem_cons.mp z with z | z
    · rw [z, A.bk.li] at hd
      cases hd
    · obtain ⟨ts, o2⟩ := A.bk.mem z
      rw [o2] at hd
      cases hd
/-! ### what the laws build -/
/-- a thing as it is handed in: its number, its name -/
def PairAt (H : Hp) (t : Addr) (r : Nat × Str) : Prop := H t = some (.tup [.int r.1, .str r.2]) ∧ NameOk r.2
theorem pairs_same {H H' : Hp} (s : Same H H') {us : List Addr} {th : List (Nat × Str)} (q : Ls (PairAt H) us th) : Ls (PairAt H') us th := q.mono fun _ _ z => ⟨s _ _ z.1, z.2⟩
theorem num_fin {Q : VK} {H : Hp} {c m : Int} (hm : 0 < m) (hb : m ≤ 2 ^ 900) (q : ∀ (n : Nat) (H' : Hp), n < 2 ^ 900 → Same H H' → Q (.int n) H') : Q (.int (c % m)) H := by
  obtain ⟨n, e, lt⟩ := modn c hm
  rw [e]
  exact q n H (small900 lt hb) (Same.refl H)
/-- rows as they are told, kept -/
def TupAt (H : Hp) (u : Addr) : Prop := ∃ xs, H u = some (.tup xs)
theorem pairs_kp {C : Addr} {H H' : Hp} {p bl : Addr} {bs F' : List Addr} {S : Sto Str} (A : StoreAt C H p bl bs S) (k : Kp (p :: bl :: bs) H F' H') {us : List Addr} {th : List (Nat × Str)} (q : Ls (PairAt H) us th) : Ls (PairAt H') us th :=
  q.mono fun _ _ z => ⟨(k _ _ z.1 (A.tup_out z.1)).1, z.2⟩
theorem kp_made {x dx C bl : Addr} {H H2 : Hp} (nx : H x = none) (ndx : H dx = none) (k : Kp [x] (upd (upd H dx (.own x)) x (.ins C dx [])) [x, bl] H2) : Kp [] H [x, bl] H2 := fun c o e _ => by
  have n1 : c ≠ x := ne_of_none e nx
  have n2 : c ≠ dx := ne_of_none e ndx
  exact k c o (by rw [upd_ne n1, upd_ne n2]; exact e) (by simpa using n1)
theorem dropd {β : Type} {l : List β} {n i : Nat} (h : n = i) (hl : i = l.length) : l.take n = l := List.take_of_length_le (by omega)
/-! ### rows compared -/
def rowD (r : Nat × Th Str) : PyData := .tuple [.int r.1, .int r.2.n, .str r.2.x, .int r.2.c]
theorem row_dp {K : PySem.W.Frag} {H : Hp} {u : Addr} {r : Nat × Th Str} (a : RowAt H u r) : Dp K H (.ref u) (rowD r) := .tup (SqT.of a.1) (.cons (.int _) (.cons (.int _) (.cons (.str _) (.cons (.int _) .nil))))
theorem row_shaped {r : Nat × Th Str} (h : NameOk r.2.x) : SeqAt.shaped (rowD r) = true := by
  unfold SeqAt.shaped rowD
  simp [PyData.canLay0, PyData.canLayAll0, PyData.depth, PyData.depthAll, h.2]
theorem row_eqv (r : Nat × Th Str) : PyData.eqv (rowD r) (rowD r) = true := by
  unfold rowD
  simp [PyData.eqv, PyData.eqvAll]
theorem rowsFrom_ok : ∀ {bk : List (List (Th Str))} {i : Nat}, (∀ j h, h ∈ bk.getD j [] → NameOk h.x) → ∀ q, q ∈ rowsFrom i bk → NameOk q.2.x
  | [], i, _, q, h => by cases h
  | hs :: r, i, k, q, h => by
    have h' : q ∈ hs.map (fun g => (i, g)) ++ rowsFrom (i + 1) r := h
    rcases List.mem_append.mp h' with z | z
    · obtain ⟨g, hg, rfl⟩ := List.mem_map.mp z
      exact k 0 g hg
    · exact rowsFrom_ok (bk := r) (i := i + 1) (fun j h hm => k (j + 1) h hm) q z
/-! ### max(xs, default=d) of whole numbers -/
def rMaxD (K : PySem.W.Frag) : List V → List V → Hp → VK → Prop := fun xs zs H Q => ∃ (p : Addr) (ns : List Int) (d : Int), xs = [V.ref p] ∧ zs = [V.int d] ∧ SqL K H p (ns.map V.int) ∧ ∀ m, ((ns = [] ∧ m = d) ∨ (m ∈ ns ∧ ∀ y, y ∈ ns → y ≤ m)) → Q (.int m) H
theorem maxOf_spec : ∀ (ys : List Int) (y : Int), PySem.W.maxOf y ys ∈ y :: ys ∧ ∀ z, z ∈ y :: ys → z ≤ PySem.W.maxOf y ys
  | [], y => ⟨List.mem_cons_self, fun z hz => by
    have e : z = y := by simpa using hz
    subst e
    exact Int.le_refl _⟩
  | w :: ys, y => by
    have e : PySem.W.maxOf y (w :: ys) = PySem.W.maxOf (if y < w then w else y) ys := by
      show ys.foldl _ (if PySem.W.DatumOrd.lt y w = true then w else y) = _
      have e2 : (PySem.W.DatumOrd.lt y w = true) = (y < w) := by
        show (decide (y < w) = true) = _
        exact decide_eq_true_eq
      simp only [e2]
      rfl
    rw [e]
    obtain ⟨i1, i2⟩ := maxOf_spec ys (if y < w then w else y)
    refine ⟨?_, fun z hz => ?_⟩
    · rcases List.mem_cons.mp i1 with h | h
      · rw [h]
        split
        · exact List.mem_cons_of_mem _ List.mem_cons_self
        · exact List.mem_cons_self
      · exact List.mem_cons_of_mem _ (List.mem_cons_of_mem _ h)
    · have t : y ≤ PySem.W.maxOf (if y < w then w else y) ys ∧ w ≤ PySem.W.maxOf (if y < w then w else y) ys := by
        have t0 := i2 (if y < w then w else y) List.mem_cons_self
        have t1 : y ≤ (if y < w then w else y) ∧ w ≤ (if y < w then w else y) := by split <;> omega
        omega
      rcases List.mem_cons.mp hz with h | h
      · rw [h]
        exact t.1
      · rcases List.mem_cons.mp h with h | h
        · rw [h]
          exact t.2
        · exact i2 z (List.mem_cons_of_mem _ h)
theorem call_maxD {X : Cx} (hc : X.calm = true) (hu : X.A.units + 64 < cLine) : CallRK X (.builtin "max") ["default"] (rMaxD X.K) := by
  intro pins s σ H xs zs us ws Q I r rz h
  obtain ⟨p, ns, d, rfl, rfl, hs, q1⟩ := h
  obtain ⟨its, rv, pl, _⟩ := I.list hs
  obtain ⟨u, rfl, ru⟩ := vals1 r
  obtain ⟨w, rfl, rw1⟩ := vals1 rz
  cases ru
  have ri := rv.ints
  refine PySem.W.max_list_datum_default (α := Int) (I.ok.hd hc) pl.isList (PySem.W.HoldAll.of_ints ri) (by show X.A.units + 1 + 0 < cLine; omega) (fun e h' tk k => ?_) fun y ys i v h' tk e _ hv k => ?_
  · exact ⟨_, H, I.kept k, rw1, q1 _ (Or.inl ⟨e, rfl⟩)⟩
  · obtain ⟨t, rfl⟩ := PySem.W.int_of_holds hv
    obtain ⟨m1, m2⟩ := maxOf_spec ys y
    rw [← e] at m1 m2
    exact ⟨.int (PySem.W.maxOf y ys), H, I.kept k, ⟨t, rfl⟩, q1 _ (Or.inr ⟨m1, m2⟩)⟩
/-! ### a store that holds the things of a plain list -/
structure Led (C : Addr) (H : Hp) (p bl : Addr) (bs : List Addr) (S : Sto Str) (b : Nat) (L : List (Nat × Str)) : Prop where
  st : StoreAt C H p bl bs S
  ok : S.Ok
  base : S.base = b
  holds : Holds S L
  len : S.bk.length ≤ 901
  last : S.last < 2 ^ 900
section
variable {C : Addr} {H H2 : Hp} {p bl : Addr} {bs bs2 : List Addr} {S : Sto Str} {b : Nat} {L : List (Nat × Str)}
theorem Led.keep (A : Led C H p bl bs S b L) (s : Same H H2) : Led C H2 p bl bs S b L := ⟨A.st.keep s, A.ok, A.base, A.holds, A.len, A.last⟩
theorem Led.new (A : StoreAt C H p bl bs (Sto.new b)) (h2 : 2 ≤ b) (h16 : b ≤ 16) : Led C H p bl bs (Sto.new b) b [] := ⟨A, new_ok h2 h16, rfl, holds_new b, Nat.zero_le _, Nat.two_pow_pos _⟩
theorem Led.part (A : Led C H p bl bs S b L) {n : Nat} (hn : n < 2 ^ 900) : part S.base n S.last ≤ 900 := part_bits A.ok.b2 hn A.last
theorem Led.put (A : Led C H p bl bs S b L) {n : Nat} {x : Str} (hn : n < 2 ^ 900) (hl : S.last ≤ n) (A2 : StoreAt C H2 p bl bs2 (S.put n x)) : Led C H2 p bl bs2 (S.put n x) b (L ++ [(n, x)]) := by
  refine ⟨A2, put_ok A.ok x hl, A.base, holds_put A.holds n x, ?_, A.last⟩
  show (addAt (ext S.bk _) _ _).length ≤ 901
  rw [addAt_len, ext_len]
  have h1 := A.part hn
  have := A.len
  split <;> omega
theorem Led.take (A : Led C H p bl bs S b L) {A' B : List (Nat × Str)} {q : Nat × Str} {h : Th Str} (s : Split L A' q B) (eh : (S.pre.bk.getD 0 []).head? = some h) (hq : q.1 < 2 ^ 900) (A2 : StoreAt C H2 p bl bs2 S.take) :
    Led C H2 p bl bs2 S.take b (A' ++ B) ∧ S.take.last = q.1 ∧ h.n = q.1 ∧ h.x = q.2 := by
  have G := gone A.ok A.holds s eh
  have hpos : 0 < S.many := by
    rw [A.holds.many, s.len]
    omega
  have R := ready A.ok hpos
  refine ⟨⟨A2, take_ok A.ok hpos, R.base.trans A.base, G.rest, ?_, by rw [G.last]; exact hq⟩, G.last, congrArg Prod.fst G.th, congrArg Prod.snd G.th⟩
  show (S.pre.bk.set 0 _).length ≤ 901
  rw [List.length_set, R.len]
  exact A.len
end
def PairI (H : Hp) (t : Addr) (r : Int × Str) : Prop := H t = some (.tup [.int r.1, .str r.2]) ∧ NameOk r.2
def asI (r : Nat × Str) : Int × Str := (r.1, r.2)
theorem pairs_asI {H : Hp} : ∀ {us : List Addr} {L : List (Nat × Str)}, Ls (PairAt H) us L → Ls (PairI H) us (L.map asI)
  | [], [], _ => trivial
  | t :: ts, h :: hs, q => ⟨q.1, pairs_asI q.2⟩
  | [], _ :: _, q => q.elim
  | _ :: _, [], q => q.elim
theorem pairs_nat {H : Hp} : ∀ {us : List Addr} {th : List (Int × Str)}, Ls (PairI H) us th → (∀ r, r ∈ th → 0 ≤ r.1) → ∃ L, th = L.map asI ∧ Ls (PairAt H) us L
  | [], [], _, _ => ⟨[], rfl, trivial⟩
  | t :: ts, h :: hs, q, k => by
    obtain ⟨L, e, q2⟩ := pairs_nat q.2 fun r hr => k r (List.mem_cons_of_mem _ hr)
    obtain ⟨n, en⟩ := nat_of (k h (by simp))
    have eh : h = asI (n, h.2) := Prod.ext en rfl
    have q1 := q.1
    rw [eh] at q1
    exact ⟨(n, h.2) :: L, by rw [List.map_cons, ← e, ← eh], q1, q2⟩
  | [], _ :: _, q, _ => q.elim
  | _ :: _, [], q, _ => q.elim
theorem asI_inj : ∀ {L M : List (Nat × Str)}, L.map asI = M.map asI → L = M
  | [], [], _ => rfl
  | [], _ :: _, h => by simp at h
  | _ :: _, [], h => by simp at h
  | a :: l, b :: m, h => by
    rw [List.map_cons, List.map_cons] at h
    obtain ⟨h1, h2⟩ := List.cons.inj h
    obtain ⟨e1, e2⟩ := Prod.mk.inj h1
    rw [Prod.ext (Int.ofNat_inj.mp e1) e2, asI_inj h2]
/-- a list of pairs as data -/
def prD (r : Nat × Str) : PyData := .tuple [.int r.1, .str r.2]
theorem pr_dp {K : PySem.W.Frag} {H : Hp} {u : Addr} {r : Nat × Str} (a : PairAt H u r) : Dp K H (.ref u) (prD r) := .tup (SqT.of a.1) (.cons (.int _) (.cons (.str _) .nil))
theorem pr_shaped {r : Nat × Str} (h : NameOk r.2) : SeqAt.shaped (prD r) = true := by
  unfold SeqAt.shaped prD
  simp [PyData.canLay0, PyData.canLayAll0, PyData.depth, PyData.depthAll, h.2]
theorem pr_eqv (r : Nat × Str) : PyData.eqv (prD r) (prD r) = true := by
  unfold prD
  simp [PyData.eqv, PyData.eqvAll]
theorem prs_dp {K : PySem.W.Frag} {H : Hp} : ∀ {us : List Addr} {L : List (Nat × Str)}, Ls (PairAt H) us L → DpAll K H (us.map V.ref) (L.map prD)
  | [], [], _ => .nil
  | t :: ts, h :: hs, q => .cons (pr_dp q.1) (prs_dp q.2)
  | [], _ :: _, q => q.elim
  | _ :: _, [], q => q.elim
theorem prs_can {H : Hp} : ∀ {ts : List Addr} {hs : List (Nat × Str)}, Ls (PairAt H) ts hs → PyData.canLayAll0 (hs.map prD) = true ∧ PyData.depthAll (hs.map prD) ≤ 2
  | [], [], _ => ⟨by simp [PyData.canLayAll0], by simp [PyData.depthAll]⟩
  | t :: ts, h :: hs, q => by
    obtain ⟨i1, i2⟩ := prs_can q.2
    have e := q.1.2.2
    refine ⟨?_, ?_⟩
    · rw [List.map_cons]
      simp [PyData.canLayAll0, prD, PyData.canLay0, e, i1]
    · rw [List.map_cons]
      simp [PyData.depthAll, prD, PyData.depth]
      omega
  | [], _ :: _, q => q.elim
  | _ :: _, [], q => q.elim
theorem prs_shaped {H : Hp} {ts : List Addr} {hs : List (Nat × Str)} (q : Ls (PairAt H) ts hs) : SeqAt.shaped (.list (hs.map prD)) = true := by
  obtain ⟨i1, i2⟩ := prs_can q
  unfold SeqAt.shaped
  simp [PyData.canLay0, i1, PyData.depth]
  omega
theorem prs_eqv : ∀ L : List (Nat × Str), PyData.eqv (.list (L.map prD)) (.list (L.map prD)) = true
  | [] => by simp [PyData.eqv, PyData.eqvAll]
  | h :: r => by
    have ih := prs_eqv r
    have e := pr_eqv h
    simp [PyData.eqv, PyData.eqvAll] at ih ⊢
    exact ⟨e, ih⟩
theorem or_fst {A B : TT} {σ : St} {H : Hp} {Q : Bool → Hp → Prop} (ha : ∀ Q : Bool → Hp → Prop, Q false H → A σ H Q) (hb : B σ H Q) : tOr A B σ H Q := ha _ (iteF hb)
theorem kp_nil {H H' : Hp} {F : List Addr} (k : Kp [] H F H') : Same H H' := fun c o e => (k c o e (by simp)).1
/-- a test of two, the other one reads only where the first one holds -/
theorem if_and {A B : TT} {T F : TS} {D : Ends} {σ : St} {H : Hp} (P : Hp → Prop) (k1 k2 : Bool) (hP : P H) (hA : ∀ Q : Bool → Hp → Prop, Q k1 H → A σ H Q) (hB : k1 = true → ∀ Q : Bool → Hp → Prop, (∀ H', P H' → Q k2 H') → B σ H Q)
    (hT : k2 = true → ∀ H', P H' → T D σ H') (hF : ∀ H', P H' → F D σ H') : tIfS (tAnd A B) T F D σ H := by
  refine hA _ ?_
  cases k1 with
  | false => exact iteF (iteF (hF H hP))
  | true =>
    refine iteT (hB rfl _ fun H' h => ?_)
    cases k2 with
    | true => exact iteT (hT rfl H' h)
    | false => exact iteF (hF H' h)
/-! ### a store and the law's own list beside it, deed by deed -/
theorem cut_to (xs : List V) {k : Nat} (h : k ≤ xs.length) : cutV xs none (some (k : Int)) = xs.take k := by
  unfold cutV
  rw [HT.sIx_none, HT.sIx_nat, List.drop_zero]
  congr 1
  omega
theorem cut_from (xs : List V) {k : Nat} (h : k ≤ xs.length) : cutV xs (some (k : Int)) none = xs.drop k := by
  unfold cutV
  rw [HT.sIx_none, HT.sIx_nat, Nat.min_eq_left h]
  exact List.take_of_length_le (by rw [List.length_drop]; omega)
theorem cut_ints (ns : List Int) (lo hi : Option Int) : ∃ cs : List Int, cutV (ns.map V.int) lo hi = cs.map V.int ∧ cs.length ≤ ns.length := by
  refine ⟨(ns.drop (HT.sIx (ns.map V.int).length 0 lo)).take (HT.sIx (ns.map V.int).length (ns.map V.int).length hi - HT.sIx (ns.map V.int).length 0 lo), ?_, ?_⟩
  · unfold cutV
    rw [List.map_take, List.map_drop]
  · rw [List.length_take, List.length_drop]
    omega
theorem get_ints {cs : List Int} {i : Nat} {y : V} (h : (cs.map V.int)[i]? = some y) : ∃ c, cs[i]? = some c ∧ y = V.int c := by
  rw [List.getElem?_map] at h
  cases e : cs[i]? with
  | none =>
    rw [e] at h
    cases h
  | some u =>
    rw [e] at h
    exact ⟨u, rfl, (Option.some.inj h).symm⟩
structure Run (C : Addr) (T : Nat) (p bl r : Addr) (b i : Nat) (H : Hp) (bs us : List Addr) (S : Sto Str) (L : List (Nat × Str)) : Prop where
  led : Led C H p bl bs S b L
  er : H r = some (.lst (us.map V.ref))
  rout : r ∉ p :: bl :: bs
  pairs : Ls (PairAt H) us L
  len : L.length ≤ i
  lastb : S.last ≤ i * T
  bd : ∀ q, q ∈ L → q.1 ≤ i * T
section
variable {C p bl r : Addr} {T b i : Nat} {H H2 : Hp} {bs bs2 us : List Addr} {S : Sto Str} {L : List (Nat × Str)}
theorem Run.keep (R : Run C T p bl r b i H bs us S L) (s : Same H H2) : Run C T p bl r b i H2 bs us S L := ⟨R.led.keep s, s _ _ R.er, R.rout, pairs_same s R.pairs, R.len, R.lastb, R.bd⟩
theorem Run.up (R : Run C T p bl r b i H bs us S L) : Run C T p bl r b (i + 1) H bs us S L := by
  have e : (i + 1) * T = i * T + T := Nat.succ_mul _ _
  exact ⟨R.led, R.er, R.rout, R.pairs, by have := R.len; omega, by have := R.lastb; omega, fun q hq => by have := R.bd q hq; omega⟩
theorem Run.put (R : Run C T p bl r b i H bs us S L) {u : Addr} {n : Nat} {x : Str} (hn : S.last ≤ n) (hT : n ≤ (i + 1) * T) (h9 : n < 2 ^ 900) (hx : NameOk x) (A2 : StoreAt C H2 p bl bs2 (S.put n x)) (K : Kp (p :: bl :: bs) H (p :: bl :: bs2) H2) (hu : H2 u = none) :
    Run C T p bl r b (i + 1) (upd (upd H2 u (.tup [.int n, .str x])) r (.lst (us.map V.ref ++ [.ref u]))) bs2 (us ++ [u]) (S.put n x) (L ++ [(n, x)]) := by
  have e : (i + 1) * T = i * T + T := Nat.succ_mul _ _
  obtain ⟨er2, ro2⟩ := K _ _ R.er R.rout
  have L2 := pairs_kp R.led.st K R.pairs
  have A3 := (R.led.put h9 hn A2).keep (same_upd1 (o := .tup [.int n, .str x]) hu)
  have nru : r ≠ u := ne_of_none er2 hu
  have er3 : (upd H2 u (.tup [.int n, .str x])) r = some (.lst (us.map V.ref)) := by rw [upd_ne nru]; exact er2
  refine ⟨⟨A3.st.upd_out ro2 er3, A3.ok, A3.base, A3.holds, A3.len, A3.last⟩, ?_, ro2, ?_, ?_, ?_, fun q hq => ?_⟩
  · rw [upd_same, List.map_append]
    rfl
  · refine Ls.app ⟨by rw [upd_ne nru.symm, upd_same], hx⟩ (L2.mono fun c g z => ⟨by rw [upd_ne (ne_of z.1 er2 (by intro y; cases y)), upd_ne (ne_of_none z.1 hu)]; exact z.1, z.2⟩)
  · rw [List.length_append]
    have := R.len
    show L.length + 1 ≤ i + 1
    omega
  · show S.last ≤ _
    have := R.lastb
    omega
  · rcases List.mem_append.mp hq with z | z
    · have := R.bd q z
      omega
    · have e2 : q = (n, x) := by simpa using z
      rw [e2]
      exact hT
/-- behind one that went: the law's list without it, anew -/
theorem Run.gone (R : Run C T p bl r b i H bs us S L) {k : Nat} {q : Nat × Str} {S' : Sto Str} {H3 : Hp} {r' : Addr} (f : FirstAt L k q) (A2 : Led C H2 p bl bs2 S' b (L.take k ++ L.drop (k + 1))) (el : S'.last = q.1) (K : Kp (p :: bl :: bs) H (p :: bl :: bs2) H2)
    (s : Same H2 H3) (fr : H2 r' = none) (er : H3 r' = some (.lst ((us.map V.ref).take k ++ (us.map V.ref).drop (k + 1)))) : Run C T p bl r' b i H3 bs2 (us.take k ++ us.drop (k + 1)) S' (L.take k ++ L.drop (k + 1)) := by
  have hk : k < L.length := (List.getElem?_eq_some_iff.mp f.1).1
  have L2 := pairs_kp R.led.st K R.pairs
  refine ⟨A2.keep s, ?_, A2.st.new_out fr, ?_, ?_, ?_, fun c hc => ?_⟩
  · rw [er, List.map_append, List.map_take, List.map_drop]
  · exact pairs_same s ((L2.take k).cat (L2.drop (k + 1)))
  · rw [List.length_append, List.length_take, List.length_drop]
    have := R.len
    omega
  · rw [el]
    exact R.bd q (List.mem_of_getElem? f.1)
  · rcases List.mem_append.mp hc with z | z
    · exact R.bd c (List.mem_of_mem_take z)
    · exact R.bd c (List.mem_of_mem_drop z)
theorem Run.first (R : Run C T p bl r b i H bs us S L) {k : Nat} {q : Nat × Str} (f : FirstAt L k q) : ∃ t, us[k]? = some t ∧ PairAt H t q ∧ atI (us.map V.ref) (k : Int) = some (V.ref t) ∧ k < us.length := by
  obtain ⟨t, et, at_⟩ := R.pairs.getR f.1
  exact ⟨t, et, at_, atI_nat (by rw [List.getElem?_map, et]; rfl), (List.getElem?_eq_some_iff.mp et).1⟩
theorem Run.emp (R : Run C T p bl r b i H bs us S L) {K : PySem.W.Frag} {e : Addr} (he : H e = none) : Dp K (upd H e (.lst [])) (.ref r) (.list (L.map prD)) ∧ Dp K (upd H e (.lst [])) (.ref e) (.list []) ∧ SeqAt.shaped (.list (L.map prD)) = true ∧ SeqAt.shaped (.list []) = true ∧ PyData.eqv (.list (L.map prD)) (.list []) = decide (L = []) := by
  have s : Same H (upd H e (.lst [])) := same_upd1 he
  refine ⟨.lst (SqL.of (s _ _ R.er)) (prs_dp (pairs_same s R.pairs)), .lst (SqL.of upd_same) .nil, prs_shaped R.pairs, by decide +kernel, ?_⟩
  cases L with
  | nil => simp [PyData.eqv, PyData.eqvAll]
  | cons h t => simp [PyData.eqv, PyData.eqvAll]
end
/-! ### walks within an except suite: lists, tuples that are unpacked, comprehensions -/
section
open PyProof.Rows
variable {prog : Program} {w : World} {A : Around} {E : Value → Shared → Prop} {s : Shared}
/-- what a walk's end makes while an exception is handled: a StopIteration, chained, and gone again -/
theorem stop_hot {x1 : Addr} {α : Type} {Q : α → Shared → Prop} {E2 : Value → Shared → Prop} (hot : HotX.HotAt A x1 s.heap) (hE : ∀ (a : Addr) (h' : Heap), (∀ b o, s.heap.get? b = some o → h'.get? b = some o) → (∃ o, h'.get? a = some o ∧ o.cls = .type "StopIteration") → E2 (.ref a) { s with heap := h' }) :
    wpAny (model prog w) A (newExc (.type "StopIteration") [] >>= fun e => (raiseNew e : Sem α)) Q E2 s := by
  obtain ⟨hh, o1, vs1, g1, d1, c1⟩ := hot
  refine wpAny_bind ?_
  simp only [newExc, newTuple]
  refine wpAny_bind (wpAny_newObj_type ?_ (by size_fits))
  refine wpAny_bind (m := firstArgMember _ _) (wpAny_of_eq (a := Value.none) (by first | rfl | (simp only [firstArgMember]; rfl)) ?_)
  refine wpAny_newObj_type ?_ (by size_fits)
  have k1 : ∀ (p : Obj) (b : Addr) (o : Obj), s.heap.get? b = some o → (s.heap.push p).get? b = some o := fun p b o e => Heap.get?_push_of_some _ e
  refine HotX.raiseNew_hot (x1 := x1) ⟨hh, o1, vs1, Heap.get?_push_of_some _ (k1 _ _ _ g1), d1, c1⟩ (Nat.ne_of_lt (Heap.lt_size (k1 _ _ _ g1))) (Heap.get?_push_size _ rfl) rfl (by first | (simp; done) | (simp; omega) | (simp only [Array.size_append]; simp; omega)) ?_
  refine hE _ _ (fun b o e => ?_) ⟨_, Heap.get?_update_self _ (Heap.get?_push_size _ rfl) rfl, rfl⟩
  rw [Heap.get?_update_other _ _ (Nat.ne_of_gt (Heap.lt_size (k1 _ _ _ e)))]
  exact Heap.get?_push_of_some _ (k1 _ _ _ e)
theorem hot_keep {it x1 : Addr} {h h' : Heap} {o : Obj} {vs : Array Value} (hot : HotX.HotAt A x1 h) (ho : h.get? it = some o) (hd : o.data = .fields vs) (h2 : vs.size ≤ 2) (sb : Heap.SameBut it h h') : HotX.HotAt A x1 h' := by
  obtain ⟨hh, o1, vs1, g1, d1, c1⟩ := hot
  have ne : x1 ≠ it := fun z => by
    rw [z, ho] at g1
    have e : o = o1 := Option.some.inj g1
    rw [e, d1] at hd
    have e2 : vs1 = vs := Data.fields.inj hd
    rw [e2, Array.getElem?_eq_none h2] at c1
    cases c1
  exact ⟨hh, o1, vs1, (sb.2 x1 ne).trans g1, d1, c1⟩
theorem list_end_hot {it l x1 : Addr} {i : Nat} {items : Array Value} {Q : Option Value → Shared → Prop} (hot : HotX.HotAt A x1 s.heap) (hit : s.heap.IsListIter it l i) (hl : s.heap.IsList l items) (hx : items[i]? = none)
    (hQ : ∀ h', Heap.ExtBut it s.heap h' → Q none { s with heap := h' }) : wpAny (model prog w) A (pyNext (.ref it)) Q E s := by
  obtain ⟨o, ho, hc, hd⟩ := id hit
  obtain ⟨ol, hol, _, nl, hdl⟩ := hl
  unfold pyNext
  refine wpAny_bind (wpAny_attempt (wpAny_callSpecial?_slot (name := Str.ofString "__next__") hit.typeIs slot_listiter_next (wpAny_call_entry slot_listiter_next hit.typeIs entry_listiter_next ?_ (args_listiter_next _))))
  show wpAny _ _ (field (.ref it) 0 >>= _) _ _ s
  refine wpAny_bind (wpAny_field ho hd (x := .ref l) rfl ?_)
  show wpAny _ _ (if (Value.ref l == Value.none) = true then _ else _) _ _ s
  rw [if_neg (show ¬ ((Value.ref l == Value.none) = true) from Bool.false_ne_true)]
  show wpAny _ _ (field (.ref it) 1 >>= _) _ _ s
  refine wpAny_bind (wpAny_field ho hd (x := .int i 0) rfl ?_)
  show wpAny _ _ (seqItems? (.ref l) >>= _) _ _ s
  refine wpAny_bind (wpAny_seqItems hol hdl ?_)
  simp only [Int.toNat_natCast, hx]
  refine wpAny_bind (wpAny_rule (wpAny_bind (wpAny_setField ho hd (by simp) ?_)))
  refine stop_hot (hot_keep hot ho hd (by simp) (Heap.SameBut.update ..)) fun a h' k ⟨oa, ea, ca⟩ => ?_
  refine wpAny_bind (wpAny_isInstance (T := "StopIteration") (b := true) ⟨_, ea, ca⟩ isSubtype_stop ?_)
  exact wpAny_pure (hQ _ fun b o hb e => k b o ((Heap.SameBut.update ..).extBut b o hb e))
theorem tup_end_hot {it t x1 : Addr} {i : Nat} {items : Array Value} {Q : Option Value → Shared → Prop} (hot : HotX.HotAt A x1 s.heap) (hit : IsTupIter s.heap it t i) (ht : IsTup s.heap t items) (hx : items[i]? = none)
    (hQ : ∀ h', Heap.ExtBut it s.heap h' → Q none { s with heap := h' }) : wpAny (model prog w) A (pyNext (.ref it)) Q E s := by
  obtain ⟨o, ho, hc, hd⟩ := id hit
  obtain ⟨ol, hol, _, nl, hdl⟩ := ht
  unfold pyNext
  refine wpAny_bind (wpAny_attempt (wpAny_callSpecial?_slot (name := Str.ofString "__next__") hit.typeIs slot_tupleiter_next (wpAny_call_entry slot_tupleiter_next hit.typeIs entry_tupleiter_next ?_ (args_tupleiter_next _))))
  show wpAny _ _ (field (.ref it) 0 >>= _) _ _ s
  refine wpAny_bind (wpAny_field ho hd (x := .ref t) rfl ?_)
  show wpAny _ _ (if (Value.ref t == Value.none) = true then _ else _) _ _ s
  rw [if_neg (show ¬ ((Value.ref t == Value.none) = true) from Bool.false_ne_true)]
  show wpAny _ _ (field (.ref it) 1 >>= _) _ _ s
  refine wpAny_bind (wpAny_field ho hd (x := .int i 0) rfl ?_)
  show wpAny _ _ (seqItems? (.ref t) >>= _) _ _ s
  refine wpAny_bind (wpAny_seqItems hol hdl ?_)
  simp only [Int.toNat_natCast, hx]
  refine wpAny_bind (wpAny_rule (wpAny_bind (wpAny_setField ho hd (by simp) ?_)))
  refine stop_hot (hot_keep hot ho hd (by simp) (Heap.SameBut.update ..)) fun a h' k ⟨oa, ea, ca⟩ => ?_
  refine wpAny_bind (wpAny_isInstance (T := "StopIteration") (b := true) ⟨_, ea, ca⟩ isSubtype_stop ?_)
  exact wpAny_pure (hQ _ fun b o hb e => k b o ((Heap.SameBut.update ..).extBut b o hb e))
theorem unpack_hot {t x1 : Addr} {items : Array Value} {Q : List Value → Shared → Prop} (hot : HotX.HotAt A x1 s.heap) (ht : IsTup s.heap t items) (hQ : ∀ h', Heap.ExtBut s.heap.objs.size s.heap h' → Q items.toList { s with heap := h' }) : wpAny (model prog w) A (unpackItems (.ref t) items.size none) Q E s := by
  have hlt : t ≠ s.heap.objs.size := by
    obtain ⟨o, ho, _⟩ := ht
    exact Nat.ne_of_lt (Heap.lt_size ho)
  unfold unpackItems
  refine wpAny_bind ?_
  unfold notIterableAtAll
  refine wpAny_bind (wpAny_specialOf ht.typeIs slot_tuple_iter.lookup ?_)
  refine wpAny_pure ?_
  simp only [Bool.false_eq_true, if_false]
  refine wpAny_bind (wpAny_holding (iter_tuple ht ?_))
  refine wpAny_bind (wpAny_holding (draw_tuple hlt items.size 0 _ _ ⟨_, Heap.get?_push_size _ rfl, rfl, rfl⟩ (ht.push _) (by omega) fun h1 hit1 hs1 => ?_))
  have hall : List.take items.size (List.drop 0 items.toList) = items.toList := by
    rw [List.drop_zero]
    exact List.take_of_length_le (by simp)
  rw [hall, if_neg (by simp)]
  have ht1 : IsTup h1 t items := (ht.push _).extBut hs1.extBut hlt
  have hot1 : HotX.HotAt A x1 h1 := by
    obtain ⟨hh, o1, vs1, g1, d1, c1⟩ := hot
    exact ⟨hh, o1, vs1, hs1.extBut x1 o1 (Nat.ne_of_lt (Heap.lt_size g1)) (Heap.get?_push_of_some _ g1), d1, c1⟩
  refine wpAny_bind (wpAny_holding (tup_end_hot (x1 := x1) hot1 hit1 ht1 (by simp) fun h2 he2 => ?_))
  simp only [Option.isSome_none, Bool.false_eq_true, if_false]
  exact wpAny_pure (hQ h2 fun b o hb e => he2 b o hb (hs1.extBut b o hb (Heap.get?_push_of_some _ e)))
end
section
variable {X : Cx}
/-- a, b = a tuple, within an except suite -/
theorem pg_tupH {es : List Expr} {k : Nat} {t : TGs} {n : Nat} {pos : Pos} (hc : L2H.HotC X) (h : PGs X es t) (hn : (assignEach es X.env).length = n := by rfl) (hst : (assignEach es X.env).findIdx? (·.1) = none := by rfl) : PG X (.Tuple es k pos) (gTup X.K n t) := by
  refine ⟨fun pins s σ H v u Q I r hw => ?_⟩
  obtain ⟨a, xs, e1, hq, hl, hw⟩ := hw
  subst e1
  cases r
  obtain ⟨x1, hot⟩ := hc.at I
  obtain ⟨its, rv, ht, hz⟩ := I.tuple hq
  have hsz : (assignEach es X.env).length = its.toArray.size := by simp [hn, ← hl, rv.length]
  rw [PyProof.Rows.assign_Tuple]
  refine wpAny_bind (wpAny_standAt ?_)
  unfold unpack
  rw [hsz, hst]
  refine wpAny_bind (wpAny_holding (unpack_hot hot ht fun h' hx => ?_))
  have I1 : Inv X pins σ H { s with heap := h' } := I.kept (t' := s.toks) fun b o e => hx b o (Nat.ne_of_lt (Heap.lt_size e)) e
  exact h.run pins _ σ H xs _ Q I1 (by simpa using rv) hw
theorem turn_listH {P : Program} {w : World} {K : PySem.W.Frag} {tg : Expr} (a it : Addr) : L2H.TurnH P w K tg (Itl K a) [it] it (fun i h => h.IsListIter it a i) where
  mem := by simp
  obj := fun i h st b hb => by
    have e : b = it := by simpa using hb
    subst e
    obtain ⟨o, e, c, d⟩ := st
    exact ⟨o, e, fun v z => by rw [d] at z; cases z⟩
  keep := fun i h h' st k => st.at fun o e => k it (by simp) o e
  item := by
    intro X hP hw hK hc i pins s σ H E I hf st hg
    subst hP hw hK
    obtain ⟨xs, x, hq, hx⟩ := hg
    obtain ⟨its, rv, p, hz⟩ := I.list hq
    obtain ⟨u, hu, ru⟩ := rv.get hx
    obtain ⟨f0, f1, f2, f3, f4, f5⟩ := hf it (by simp)
    refine wpAny_pyNext_list_item st p.isList (x := u) (by simpa using hu) fun h' st' sb => ?_
    have I1 : Inv X pins σ H { s with heap := h' } := I.turned (t' := s.toks) (fun b o hb e => (sb.2 b hb).trans e) f0 f1 f3 f4 f5
    obtain ⟨o, e, c, d⟩ := id st'
    exact ⟨u, rfl, go_of (s := { s with heap := h' }) e c d (by decide) ⟨x, H, I1, ru, ⟨rfl, fun ys hy => by rw [I.list_inj hy hq]; exact hx⟩, st', fun b hb => (hf b hb).1⟩⟩
  done := by
    intro X hP hw hK hc i pins s σ H E I hf st hg
    subst hP hw hK
    obtain ⟨xs, hq, hx⟩ := hg
    obtain ⟨its, rv, p, hz⟩ := I.list hq
    obtain ⟨f0, f1, f2, f3, f4, f5⟩ := hf it (by simp)
    have hl := rv.length
    obtain ⟨x1, hot⟩ := hc.at I
    exact list_end_hot hot st p.isList (by simp; omega) fun h' eb => ⟨rfl, I.turned (t' := s.toks) (fun b o hb e => eb b o hb e) f0 f1 f3 f4 f5⟩
  self := fun _ _ _ _ _ st h => wpAny_pyIter_listiter st h
theorem pi_listH {tg l : Expr} {tl : TE} (hl : PE X l tl) : L2H.PIH X tg l (iList X.K tl) := by
  refine ⟨fun pins s σ H R I h => ?_⟩
  refine thn (hl.run pins s σ H _ I h) fun v s1 ⟨x, H1, I1, r1, q1⟩ => ?_
  obtain ⟨a, e, ⟨xs, hq⟩, q⟩ := q1
  subst e
  cases r1
  obtain ⟨its, rv, p, hz⟩ := I1.list hq
  refine wpAny_pyIter_list p.isList ?_
  refine ⟨s1.heap.objs.size, [s1.heap.objs.size], _, _, H1, rfl, I1.kept (t' := s1.toks) fun b o e => Heap.get?_push_of_some _ e, turn_listH a _, ⟨_, Heap.get?_push_size _ rfl, rfl, rfl⟩, fun b hb => ?_, q⟩
  have e : b = s1.heap.objs.size := by simpa using hb
  subst e
  exact I1.fpOk (Nat.le_refl _) (I1.hok.fresh (Nat.le_refl _))
end
/-! ### a comprehension within an except suite -/
section
open PyProof.Rows
abbrev blkH (X : Cx) (s : Shared) (H : Hp) (scope : Scope) (cenv : Env) (fp : List Addr) (p : Addr × Obj) : Cx := { X.blk s H scope cenv fp with pn := [p] }
variable {X : Cx} {pins : List (Addr × Obj)} {σ : L2.St} {H : Hp} {s : Shared}
/-- the block's state bears the exception, too -/
theorem blk_startH {scope : Scope} {own : List (Str × Nat)} {fp : List Addr} {p : Addr × Obj} (hp : p ∈ X.pn) (I : Inv X pins σ H s) (ok : BlkOk X.N X.env.scope scope own) (hN : X.N.Nodup) (hfp : ∀ b ∈ fp, FpOk X pins H b ∧ b < s.heap.objs.size) :
    Inv (blkH X s H scope (compEnvC scope (cellsFrom (s.heap.objs.size + 1) scope.names (cloFrom X.env.cells scope.names [])) s.heap.objs.size X.env) fp p) [] (wipe σ (own.map (·.2))) H { s with heap := pushCells (s.heap.push { cls := .type "dict", data := .dict #[] }) scope.names } := by
  have J := block_start I ok hN hfp
  have kp : ∀ b o, s.heap.get? b = some o → (pushCells (s.heap.push { cls := .type "dict", data := .dict #[] }) scope.names).get? b = some o := fun b o e => pushCells_keeps _ _ _ _ (Heap.get?_push_of_some _ e)
  obtain ⟨g1, g2, g3, g4, g5⟩ := I.pin p (List.mem_append_left _ hp)
  refine ⟨⟨J.ok.mod, J.ok.kind, J.ok.glob, J.ok.blt, J.ok.above, J.ok.inj, J.ok.has, J.ok.cab, J.ok.hd, J.ok.frames, J.ok.stk, J.ok.exf, J.ok.bs, J.ok.bsz, J.ok.noex, J.ok.exfs, J.ok.funs, J.ok.frf⟩, J.os, J.bare, J.base, J.loc, J.cell, J.free, J.freeC, fun q hq => ?_, J.hok, J.len⟩
  have eq : q = p := by simpa using (show q ∈ [p] ++ ([] : List (Addr × Obj)) from hq)
  rw [eq]
  refine ⟨kp _ _ g1, g2, Nat.ne_of_lt (Heap.lt_size g1), fun z => ?_, g5⟩
  exact (List.mem_cons.mp (I.stkSub p.1 z)).elim g3 g4
theorem lc_coreH {Q : VK} {elt tg iter : Expr} {ifs : List Expr} {scope : Scope} {own : List (Str × Nat)} {pos pos' : Pos} {wi : TI} {g : TG} {tt : TT} {te : TE} {use : Option (Value → Sem Unit)} {Qf : Value → Shared → Prop} {p : Addr × Obj}
    (hot : L2H.Hot1 X.A p) (hp : p ∈ X.pn) (hN : X.N.Nodup) (I : Inv X pins σ H s) (hi : L2H.PIH X tg iter wi) (ok : BlkOk X.N X.env.scope scope own)
    (hg : ∀ (s : Shared) (H : Hp) (C : Addr) (cl : List (Str × Addr)) (fp : List Addr), PG (blkH X s H scope (compEnvC scope cl C X.env) fp p) tg g) (ht : ∀ (s : Shared) (H : Hp) (C : Addr) (cl : List (Str × Addr)) (fp : List Addr), PTs (blkH X s H scope (compEnvC scope cl C X.env) fp p) ifs tt)
    (he : ∀ (s : Shared) (H : Hp) (C : Addr) (cl : List (Str × Addr)) (fp : List Addr), PE (blkH X s H scope (compEnvC scope cl C X.env) fp p) elt te) (hs : ∀ x, foldedSetIterable iter X.env x = pure x)
    (h : tLc wi g tt te (own.map (·.2)) σ H Q)
    (hRR : ∀ D C s' m H', Inv X pins σ H' s' → Q (.ref D) H' → s'.heap.Ns C m → FpOk X pins H' C → compPost (model X.prog X.w) X.A X.xe use Qf (.ref D) C (.ok .next) s') :
    wpAny (model X.prog X.w) X.A (comprehension (.ListComp elt [⟨tg, iter, ifs, 0⟩] scope pos) scope X.env pos' (newList []) false (eval iter X.env) use) Qf X.xe s := by
  have hfree : ∀ y ∈ scope.names, y.2 = .free → ∃ c, X.env.cells.lookup y.1 = some c := fun y hy e => by
    rcases ok.free y hy e with k | k
    · exact I.ok.has _ (.inl k)
    · exact I.ok.has _ (.inr k)
  refine wpAny_comprehension_free (use := use) rfl hs (closure_ok hfree) ok.kind (fun y hy e => by rw [ok.uniq y hy, e]) (thn (hi.run pins s σ H _ I h) fun xv s1 hx => thn hx fun itv s2 h2 => ?_)
  obtain ⟨it, fp, tn, J, H2, e, I2, T, st2, f2, q⟩ := h2
  subst e
  refine wpAny_newObj_type (newEnv_comp ?_) (by show 0 ≤ sizeLine; decide)
  generalize hD : s2.heap.objs.size = D
  have hDn : H2 D = none := I2.hok.fresh (Nat.le_of_eq hD)
  obtain ⟨W, ⟨m0, w0⟩, turn⟩ := q D hDn
  generalize hs3 : ({ s2 with heap := s2.heap.push { cls := .type "list", data := .seq ([] : List Value).toArray } } : Shared) = s3
  have I3 : Inv X pins σ (upd H2 D (.lst [])) s3 := by
    rw [← hs3]
    refine I2.laid (t' := s2.toks) (fun b o e => Heap.get?_push_of_some _ e) (Nat.le_of_eq hD) ⟨Nat.zero_le _, [], 0, .nil, ?_⟩
    rw [← hD]
    exact Heap.get?_push_size _ rfl
  have h3 : s3.heap = s2.heap.push { cls := .type "list", data := .seq ([] : List Value).toArray } := by rw [← hs3]
  have sz : ∀ b ∈ fp, b < s2.heap.objs.size := fun b hb => by
    obtain ⟨o, e, _⟩ := T.obj _ _ st2 b hb
    exact Heap.lt_size e
  have f3 : ∀ b ∈ fp, FpOk X pins (upd H2 D (.lst [])) b ∧ b < s3.heap.objs.size := fun b hb => by
    have hlt := sz b hb
    refine ⟨⟨?_, (f2 b hb).2⟩, by rw [h3, Heap.size_push]; exact Nat.lt_succ_of_lt hlt⟩
    rw [upd_ne (by rw [← hD]; exact Nat.ne_of_lt hlt)]
    exact (f2 b hb).1
  have st3 : tn 0 s3.heap := T.keep _ _ _ st2 fun b _ o e => by rw [h3]; exact Heap.get?_push_of_some _ e
  have I4 := blk_startH hp I3 ok hN f3
  have pfp : ∀ b ∈ fp, p.1 ≠ b := fun b hb => (f3 b hb).1.2.2.2.2.2 p (List.mem_append_left _ hp)
  have pg := hg s3 (upd H2 D (.lst [])) s3.heap.objs.size (cellsFrom (s3.heap.objs.size + 1) scope.names (cloFrom X.env.cells scope.names [])) fp
  have pt := ht s3 (upd H2 D (.lst [])) s3.heap.objs.size (cellsFrom (s3.heap.objs.size + 1) scope.names (cloFrom X.env.cells scope.names [])) fp
  have pe := he s3 (upd H2 D (.lst [])) s3.heap.objs.size (cellsFrom (s3.heap.objs.size + 1) scope.names (cloFrom X.env.cells scope.names [])) fp
  show codeAny _ _ (.compStart (.ListComp elt [⟨tg, iter, ifs, 0⟩] scope pos) 0 (.ref it) (.ref D) (compEnvC scope (cellsFrom (s3.heap.objs.size + 1) scope.names (cloFrom X.env.cells scope.names [])) s3.heap.objs.size X.env)) (compPost (model X.prog X.w) X.A X.xe use Qf (.ref D) s3.heap.objs.size) { s3 with heap := pushCells (s3.heap.push { cls := .type "dict", data := .dict #[] }) scope.names }
  have nfp : ∀ b ∈ fp, (upd H2 D (.lst [])) b = none := fun b hb => (f3 b hb).1.1
  generalize hce : compEnvC scope (cellsFrom (s3.heap.objs.size + 1) scope.names (cloFrom X.env.cells scope.names [])) s3.heap.objs.size X.env = ce at I4 pg pt pe ⊢
  have cL : ce.locals = s3.heap.objs.size := by subst hce; rfl
  generalize hH3 : upd H2 D (.lst []) = H3 at I3 I4 pg pt pe w0 nfp f3
  generalize hs4 : ({ s3 with heap := pushCells (s3.heap.push { cls := .type "dict", data := .dict #[] }) scope.names } : Shared) = s4 at I4 ⊢
  have st4 : tn 0 s4.heap := T.keep _ _ _ st3 fun b _ o e => by rw [← hs4]; exact pushCells_keeps _ _ _ _ (Heap.get?_push_of_some _ e)
  have hB : L2H.HotC (blkH X s3 H3 scope ce fp p) := ⟨p, hot, List.mem_cons_self⟩
  have stat : ∀ {σ' : L2.St} {H' : Hp} {s' : Shared}, Inv (blkH X s3 H3 scope ce fp p) [] σ' H' s' → (∀ b ∈ fp, H' b = none) → ∀ b ∈ fp, FpOk (blkH X s3 H3 scope ce fp p) [] H' b := fun {σ' H' s'} I' hn b hb =>
    ⟨hn b hb, (I'.ok.exf b hb).1, I'.ok.exfs b hb, .inl hb, fun x c e => (I'.ok.exf b hb).2 x c e, fun q hq => by
      have eq : q = p := by simpa using (show q ∈ [p] ++ ([] : List (Addr × Obj)) from hq)
      rw [eq]
      exact pfp b hb⟩
  have loop : codeAny (model X.prog X.w) X.A (.compLoop (.ListComp elt [⟨tg, iter, ifs, 0⟩] scope pos) 0 (.ref it) (.ref D) ce) (compPost (model X.prog X.w) X.A X.xe use Qf (.ref D) s3.heap.objs.size) s4 := by
    refine compLoop_any (fun n s' => ∃ i H', Inv (blkH X s3 H3 scope ce fp p) [] (wipe σ (own.map (·.2))) H' s' ∧ tn i s'.heap ∧ (∀ b ∈ fp, H' b = none) ∧ W i n H') ?_ m0 ⟨0, H3, I4, st4, nfp, w0⟩
    rintro n s5 ⟨i, H5, I5, st5, n5, w5⟩
    rcases turn i n H5 w5 with ⟨stop, qq⟩ | ⟨go, Nx, hNx, step⟩
    · refine thnF (T.done (blkH X s3 H3 scope ce fp p) rfl rfl rfl hB i [] s5 _ H5 (fun _ _ => False) I5 (stat I5 n5) st5 stop) fun r s6 ⟨hr, I6⟩ => ?_
      subst hr
      have I7 : Inv X pins σ H5 s6 := I3.call' (ch := fp) I6.os I6.base I6.hok I6.bare fun b hb => ⟨(f3 b hb).1.2.2.2.1, (f3 b hb).1.2.1, (f3 b hb).1.2.2.2.2.1, (f3 b hb).1.2.2.2.2.2⟩
      have nC : H5 s3.heap.objs.size = none := by
        have z : H5 ce.locals = none := I6.free
        rw [cL] at z
        exact z
      obtain ⟨m, hn, _⟩ := I6.loc
      have hn : s6.heap.Ns ce.locals m := hn
      rw [cL] at hn
      exact hRR D s3.heap.objs.size s6 m H5 I7 qq hn (I3.fpOk (Nat.le_refl _) nC)
    · refine thnF (T.item (blkH X s3 H3 scope ce fp p) rfl rfl rfl hB i [] s5 _ H5 (fun _ _ => False) I5 (stat I5 n5) st5 go) fun r s6 ⟨u, hr, h6⟩ => ?_
      subst hr
      refine thnF h6 fun _ s7 ⟨x, H7, I7, r7, y7, st7, n7⟩ => ?_
      refine thnF (pg.run _ s7 _ H7 x u _ (I7.pinned (stat I7 n7) (T.obj _ _ st7)) r7 (step x H7 y7)) fun _ s8 ⟨σ8, H8, I8, hw8, q8⟩ => ?_
      refine thnF (pt.run _ s8 σ8 H8 _ I8 q8) fun b s9 ⟨H9, I9, q9⟩ => ?_
      have fin : ∀ {s' : Shared} {H' : Hp}, Inv (blkH X s3 H3 scope ce fp p) ([] ++ pinsAt fp s7.heap) σ8 H' s' → Nx H' → ∃ m, m < n ∧ ∃ i H', Inv (blkH X s3 H3 scope ce fp p) [] (wipe σ (own.map (·.2))) H' s' ∧ tn i s'.heap ∧ (∀ b ∈ fp, H' b = none) ∧ W i m H' := fun {s' H'} I' nx => by
        obtain ⟨m', hm, w'⟩ := hNx H' nx
        have pin' : ∀ b ∈ fp, ∀ o, s7.heap.get? b = some o → s'.heap.get? b = some o ∧ H' b = none := fun b hb o e =>
          let z := I'.pin (b, o) (List.mem_append_right _ (List.mem_append_right _ (mem_pinsAt hb e)))
          ⟨z.1, z.2.1⟩
        have hl : (wipe σ (own.map (·.2))).length = σ8.length := by rw [← hw8, wipe_length]
        refine ⟨m', hm, i + 1, H', (I'.unpinned (pins := [])).weak hl (fun j v e => ?_), T.keep _ _ _ st7 fun b hb o e => (pin' b hb o e).1, fun b hb => ?_, w'⟩
        · rw [← hw8] at e
          exact (wipe_some e).1
        · obtain ⟨o, e, _⟩ := T.obj _ _ st7 b hb
          exact (pin' b hb o e).2
      cases b with
      | false =>
        simp only [Bool.false_eq_true, if_false] at q9 ⊢
        exact fin I9 q9
      | true =>
        simp only [if_true] at q9 ⊢
        refine thnF (pe.run _ s9 σ8 H9 _ I9 q9) fun z s10 ⟨yv, H10, I10, r10, acc, hD10, hz10, nx⟩ => ?_
        exact app_ok (X := blkH X s3 H3 scope ce fp p) I10 hD10 hz10 r10 fun s11 I11 => fin I11 nx
  exact codeAny_compStart_list loop (T.self X.A 0 _ _ _ st4 loop)
theorem ps_setLcH {i : Nat} {y : Str} {py : Pos} {elt tg iter : Expr} {ifs : List Expr} {scope : Scope} {own : List (Str × Nat)} {pos spos : Pos} {wi : TI} {g : TG} {tt : TT} {te : TE} {p : Addr × Obj} (hot : L2H.Hot1 X.A p) (hp : p ∈ X.pn) (hN : X.N.Nodup) (hy : X.N[i]? = some y) (hyl : X.env.scope.names.lookup y = some .local)
    (hsw : swapsWith (.ListComp elt [⟨tg, iter, ifs, 0⟩] scope pos) (some (.Name y py)) spos.line X.env = pure true) (hi : L2H.PIH X tg iter wi) (ok : BlkOk X.N X.env.scope scope own)
    (hg : ∀ (s : Shared) (H : Hp) (C : Addr) (cl : List (Str × Addr)) (fp : List Addr), PG (blkH X s H scope (compEnvC scope cl C X.env) fp p) tg g) (ht : ∀ (s : Shared) (H : Hp) (C : Addr) (cl : List (Str × Addr)) (fp : List Addr), PTs (blkH X s H scope (compEnvC scope cl C X.env) fp p) ifs tt)
    (he : ∀ (s : Shared) (H : Hp) (C : Addr) (cl : List (Str × Addr)) (fp : List Addr), PE (blkH X s H scope (compEnvC scope cl C X.env) fp p) elt te) (hs : ∀ x, foldedSetIterable iter X.env x = pure x := by intro _; rfl) :
    PS X (.Assign [.Name y py] (.ListComp elt [⟨tg, iter, ifs, 0⟩] scope pos) spos) (tAsg (tLc wi g tt te (own.map (·.2))) (gName i)) := by
  refine ⟨fun pins s σ H D I h => ?_⟩
  rw [exec_Assign_Name_used _ _ _ _ hsw]
  refine wpAny_bind (wpAny_standAt (wpAny_bind ?_))
  show wpAny _ X.A (do let _ ← comprehension (.ListComp elt [⟨tg, iter, ifs, 0⟩] scope pos) scope X.env (firstIterPos [⟨tg, iter, ifs, 0⟩] pos) (newList []) false (eval iter X.env) (some (assign (.Name y py) X.env))) _ _ s
  have h : tLc wi g tt te (own.map (·.2)) σ H (fun x H1 => gName i x σ H1 D.nx) := h
  refine wpAny_bind (thn (lc_coreH (Qf := fun _ s' => SP X pins D .next s') hot hp hN I hi ok hg ht he hs h fun L C s' m H' I' q hn f => ?_) fun _ s' hq => wpAny_pure (wpAny_pure hq))
  show wpAny _ _ (assign (.Name y py) X.env (.ref L)) _ _ _
  refine wpAny_assign_Name (store_ok2 (v := V.ref L) I' hN hy (.inl hyl) rfl (fun s2 I2 ⟨a, sb, ha⟩ => ?_) (.inr hyl))
  obtain ⟨f0, f1, f2, f3, f4, f5⟩ := f
  have haC : C ≠ a := by
    rcases ha with z | z
    · rw [z]
      exact f1
    · exact fun e => f4 y a z e.symm
  exact ⟨m, hn.sameBut sb haC, fun h3 sb3 => ⟨_, H', I2.turned (t' := s2.toks) (fun b o hb e => (sb3.2 b hb).trans e) f0 f1 f3 f4 f5, q⟩⟩
/-- isinstance(e, c), e a pinned exception -/
theorem call_isP {D : Addr} {p : Addr × Obj} (hp : p ∈ X.pn) (C : ExcC X.K D) (hz : Zc (.ref D) none p.2) (hf : ∃ vs, p.2.data = .fields vs) : CallR X (.builtin "isinstance") (rIsE X.K D p.1) := by
  intro pins s σ H xs us Q I r h
  obtain ⟨c, cv, b, rfl, hcv, e, q⟩ := h
  obtain ⟨u1, u2, rfl, rx, rt⟩ := r.two
  cases rx
  have ec := hcv _ rt
  subst ec
  obtain ⟨hget, _⟩ := I.pin p (List.mem_append.mpr (.inl hp))
  obtain ⟨vs, hv⟩ := hf
  have J : PySem.W.InstAt s.heap p.1 p.2 D none := by
    obtain ⟨a, ⟨oc, od, oda, osl⟩⟩ := p
    obtain ⟨h1, h2⟩ := hz
    dsimp only at h1 h2 hv
    subst h1 h2 hv
    exact ⟨hget, rfl, rfl, trivial⟩
  exact PySem.W.kia_one (PySem.W.handS_kitx_exc C.hg C.hk C.hs C.hd C.ha C.hn C.ht C.hm) I.kIn J e (fun z => nomatch z) fun tk => ⟨.bl b, H, I.kept (t' := tk) fun _ _ z => z, rfl, q⟩
end
/-! ### defs that are told the exception, called within an except suite -/
section
open PyProof.Rows L2H
abbrev SpP := Addr → Value → Option Addr → Sp
structure FnP (P : Program) (w : World) (K : PySem.W.Frag) (mg : Str → Option Value) (base : Heap) (CX : CXT) (k : Nat) (f : Addr) (fd : FuncData) (ps : List Str) (sp : SpP) : Prop where
  len : ∀ a cls d vs H Q E, sp a cls d vs H Q E → vs.length = ps.length
  run : ∀ (A : Around) (outer : List Env) (s : Shared) (H : Hp) (args : Args) (us : List Value) (vs : List V) (Q : VK) (E : XK) (p : Addr × Obj) (cls : Value) (d : Option Addr), RoomH k A → Hot1 A p → Zc cls d p.2 → PinOk outer H s p → Env0 P w K mg base A outer s H → BindsTo s fd args (ps.zip us) → Vals vs us →
    sp p.1 cls d vs H Q E → codeAny (model P w) A (.call (.ref f) args) (CR CX outer P w H s Q E) s
theorem okP {CX : CXT} {P : Program} {w : World} {K : PySem.W.Frag} {mg : Str → Option Value} {base : Heap} {x q : Str} {st : Stmt} {f : Addr} {fd : FuncData} {N ps : List Str} {k : Nat} {sp : SpP} (F : Fun K x q st f fd) (S : FnScope N ps (defScope st)) (len : ∀ a cls d vs H Q E, sp a cls d vs H Q E → vs.length = ps.length)
    (body : ∀ (cdv : Value) (A : Around) (outer : List Env) (s : Shared) (H : Hp) (vs : List V) (Q : VK) (E : XK) (p : Addr × Obj) (cls : Value) (d : Option Addr), Hot1 A p → Zc cls d p.2 → RoomH k (A.deeper (envOfC q (defScope st) s.heap.objs.size f cdv)) → sp p.1 cls d vs H Q E →
      ∃ t, PSs (cxH CX P w K mg base N q (defScope st) f cdv A outer s H E p) (defBody st) t ∧ t { nx := fun _ H1 => Q .non H1, rt := Q } (start N vs) H) : FnP P w K mg base CX (k + 1) f fd ps sp := by
  obtain ⟨oc, od, kV, doc, pm, an, cdv, ct, osl, rfl, lk, hcd⟩ := F.ex
  refine ⟨len, fun A outer s H args us vs Q E p cls d hr hot hz hpin e0 hb r hsp => ?_⟩
  have hl := len _ _ _ _ _ _ _ hsp
  have KX : K.In s.heap := e0.mod.kin.keeps fun b o e => (e0.bs b o e).1
  have lim : s.heap.NoLimit := e0.mod.nolimit.keeps fun b o e => (e0.bs b o e).1
  have hkind : ∀ y ∈ ps.zip us, (defScope st).names.lookup y.1 = some .local ∨ ((defScope st).names.lookup y.1 = some .cell ∧ ((cellsFrom (s.heap.objs.size + 1) (defScope st).names []).lookup y.1).isSome = true) := fun ⟨n, v⟩ hy => by
    rcases S.par n (List.of_mem_zip hy).1 with q | q
    · exact .inl q
    · exact .inr ⟨q, PySem.W.cellsFrom_some _ _ _ (.inl q)⟩
  refine codeAny_call_function hr.depth (KX _ _ lk) rfl S.co S.gen rfl (PySem.W.codeRec_of KX hcd) (hb _ _ _ _ ?_)
  refine wpAny_newFunctionEnv_cells S.kind hkind fun env he s1 x => ?_
  subst he
  refine ⟨lim.keeps x.toInCall.keep, codeAny_func ?_⟩
  obtain ⟨t, ht, hq⟩ := body cdv A outer s H vs Q E p cls d hot hz (hr.deeper _) hsp
  have I : Inv (cxH CX P w K mg base N q (defScope st) f cdv A outer s H E p) [] (L2.start N vs) H s1 := inv_startH S hpin e0 hl r x
  refine wpAny_mono (ht.run [] s1 (L2.start N vs) H _ I hq) (fun fl s' hs => ?_) fun e s' hs => hs
  have fin : ∀ {σ' : L2.St} {H' : Hp} {v : V} {u : Value}, Inv (cxH CX P w K mg base N q (defScope st) f cdv A outer s H E p) [] σ' H' s' → RelV v u → Q v H' → CE outer P w H s Q u s' := fun {σ' H' v u} J rv q => ⟨v, H', J.os, J.bare, J.base, J.hok, rv, q⟩
  cases fl with
  | ret u =>
    obtain ⟨v, σ', H', J, rv, q⟩ := hs
    exact fin J rv q
  | next =>
    obtain ⟨σ', H', J, q⟩ := hs
    exact fin (v := V.non) (u := Value.none) J rfl q
  | brk =>
    obtain ⟨_, _, _, q⟩ := hs
    exact False.elim q
  | cont =>
    obtain ⟨_, _, _, q⟩ := hs
    exact False.elim q
variable {X : Cx} {CX : CXT} {k : Nat} {f C : Addr} {fd : FuncData} {ps : List Str} {E : L2.St → XK} {x m : Str} {q pos apos : Pos} {e o : Expr} {es : List Expr} {ta : TE} {t : TA}
theorem pe_callP {sp : SpP} {p : Addr × Obj} {cls : Value} {d : Option Addr} (F : FnP X.prog X.w X.K X.mg X.base CX k f fd ps sp) (hr : RoomH k X.A) (hot : Hot1 X.A p) (hp : p ∈ X.pn) (hz : Zc cls d p.2) (hg : Gl X x) (hm : X.mg x = some (.ref f)) (hk : PySem.W.keepIn X.K (.ref f) = true) (hb : Binds X.K fd ps [])
    (hx : ∀ σ, PassesAt CX X σ (E σ)) (ha : PA X (e :: es) t) (hdb : (x == ("__debug__" : Str)) = false := by decide) (he : starEach (e :: es) X.env = (false, eval e X.env) :: starEach es X.env := by rfl) (hpl : (backTo pos (starEach es X.env)).any (·.1) = false := by rfl) :
    PE X (.Call (.Name x q) (e :: es) [] pos) (tCallS (sp p.1 cls d) E t) := by
  refine ⟨fun pins s σ H Q I h => ?_⟩
  refine wpAny_Call_Name_kw (ld_glob I hg hm ?_ hdb)
  refine PySem.W.callWith_K (h₀ := X.base) I.ok.mod.kin hk (thn (ha.run pos pins s σ H _ I h) fun us s1 ⟨vs, H1, I1, r, q⟩ => ⟨I1.kIn, ?_⟩) he hpl
  have hl : us.length = ps.length := by rw [← r.length]; exact F.len _ _ _ _ _ _ _ q
  have b := hb s1 us I1.kIn (by rw [List.append_nil]; exact hl)
  rw [List.append_nil] at b
  have P1 := I1.pin p (List.mem_append_left _ hp)
  have hpin : PinOk X.stack H1 s1 p := ⟨P1.1, P1.2.1, fun hm => (List.mem_cons.mp (I1.stkSub p.1 hm)).elim P1.2.2.1 P1.2.2.2.1, P1.2.2.2.2⟩
  refine wpAny_call (codeAny_mono (F.run X.A X.stack s1 H1 ⟨us, []⟩ us vs Q (E σ) p cls d hr hot hz hpin I1.env0 b r q) fun r s' hq => ?_)
  cases r with
  | error e => exact hx σ pins H1 s1 e s' I1 hq
  | ok fl =>
    cases fl with
    | ret u => exact I1.after hq
    | next => exact False.elim hq
    | brk => exact False.elim hq
    | cont => exact False.elim hq
/-- a method's call whose exceptions are caught here -/
theorem pe_methW {sp : Sp} {pl : Sem Bool} (he : PE X o ta) (c : Cls X.K C) (hm : Meth X.K C m f) (F : FnOk X.prog X.w X.K X.mg X.base CX k f fd ps sp) (hr : Room k X.A) (hb : Binds X.K fd ps []) (hx : ∀ σ, PassesAt CX X σ (E σ)) (ha : PA X (e :: es) t)
    (hst : starEach (e :: es) X.env = (false, eval e X.env) :: starEach es X.env := by rfl) (hpl : (backTo pos (starEach es X.env)).any (·.1) = false := by rfl)
    (ht : eval (.Call (.Attribute o m apos) (e :: es) [] pos) X.env = (do
      let ov ← eval o X.env
      standAt apos.atName
      let (f, first) ← holding [ov] (getMethod ov m pl)
      callWith pos f first (backTo pos (starEach (e :: es) X.env)) (backToKw pos (keywordEach [] X.env))) := by rfl) : PE X (.Call (.Attribute o m apos) (e :: es) [] pos) (tMethH C m sp E ta t) := by
  refine ⟨fun pins s σ H Q I h => ?_⟩
  refine PySem.W.methodCall_KW (pl := pl) (thn (he.run pins s σ H _ I h) fun u s1 ⟨x, H1, I1, rx, a, dx, fs, ex, ea, l, q⟩ => ?_) ht
  subst ex
  obtain rfl : u = Value.ref a := rx
  refine getmeth_ok I1 ea c hm l ?_
  refine PySem.W.callWith_K (first := [.ref a]) (h₀ := X.base) I.ok.mod.kin hm.kp (thn (ha.run pos pins s1 σ H1 _ I1 q) fun us s2 ⟨vs, H2, I2, r, q2⟩ => ⟨I2.kIn, ?_⟩) hst hpl
  exact run_fnS (us := .ref a :: us) (vs := .ref a :: vs) F hr hb (hx σ) I2 (.cons rfl r) q2
theorem pe_meth0W {sp : Sp} {pl : Sem Bool} (he : PE X o ta) (c : Cls X.K C) (hm : Meth X.K C m f) (F : FnOk X.prog X.w X.K X.mg X.base CX k f fd ps sp) (hr : Room k X.A) (hb : Binds X.K fd ps []) (hx : ∀ σ, PassesAt CX X σ (E σ))
    (ht : eval (.Call (.Attribute o m apos) [] [] pos) X.env = (do
      let ov ← eval o X.env
      standAt apos.atName
      let (f, first) ← holding [ov] (getMethod ov m pl)
      callWith pos f first (backTo pos (starEach [] X.env)) (backToKw pos (keywordEach [] X.env))) := by rfl) : PE X (.Call (.Attribute o m apos) [] [] pos) (tMethH C m sp E ta tNil) := by
  refine ⟨fun pins s σ H Q I h => ?_⟩
  refine PySem.W.methodCall_KW (pl := pl) (thn (he.run pins s σ H _ I h) fun u s1 ⟨x, H1, I1, rx, a, dx, fs, ex, ea, l, q⟩ => ?_) ht
  subst ex
  obtain rfl : u = Value.ref a := rx
  refine getmeth_ok I1 ea c hm l ?_
  exact PySem.W.callWith_K0 (first := [.ref a]) I1.kIn hm.kp (run_fnS (us := [.ref a]) (vs := [.ref a]) F hr hb (hx σ) I1 (.cons rfl .nil) q)
/-- the exception that a suite holds -/
theorem hot_of {A : Around} {a : Addr} {oe : Obj} {cls : Value} {d : Option Addr} (hz : L2N.Zn cls d oe) (hf : ∃ vs, oe.data = .fields vs) : Hot1 (A.mark (some (.ref a))) (a, oe) := by
  obtain ⟨vs, e⟩ := hf
  exact ⟨rfl, vs, e, hz.2.2 vs e⟩
end
section
open PyProof.Rows
/-- isinstance of the exception that is held; what is to be known of its class is the reading's to tell -/
def rIsQ (K : PySem.W.Frag) (a : Addr) (cls : Value) (d : Option Addr) : List V → Hp → VK → Prop := fun xs H Q => ∃ D, cls = .ref D ∧ d = none ∧ ExcC K D ∧ rIsE K D a xs H Q
theorem call_isQ {X : Cx} {p : Addr × Obj} {cls : Value} {d : Option Addr} (hp : p ∈ X.pn) (hz : Zc cls d p.2) (hf : ∃ vs, p.2.data = .fields vs) : CallR X (.builtin "isinstance") (rIsQ X.K p.1 cls d) := by
  intro pins s σ H xs us Q I r h
  obtain ⟨D, rfl, rfl, C, h⟩ := h
  exact call_isP hp C hz hf pins s σ H xs us Q I r h
theorem hot_f {A : Around} {p : Addr × Obj} (h : L2H.Hot1 A p) : ∃ vs, p.2.data = .fields vs := by
  obtain ⟨_, vs, e, _⟩ := h
  exact ⟨vs, e⟩
theorem roomH_mark {k : Nat} {A : Around} {v : Option Value} (r : Room k A) : L2H.RoomH k (A.mark v) := ⟨r.dp, r.un⟩
theorem takes0 {X : Cx} : L2N.Takes X fun _ _ _ _ => False := fun _ _ ⟨_, _, _, _, _, _, _, _, _, _, _, _, _, _, _, _, w⟩ => w.elim
theorem pass0At {X : Cx} (σ : L2.St) : PassesAt CX0 X σ E0 := fun _ _ _ _ _ _ c => False.elim c
end
section
open PyProof.Rows
theorem pg_tupK {X : Cx} {K : PySem.W.Frag} (eK : X.K = K) {es : List Expr} {k : Nat} {t : TGs} {n : Nat} {pos : Pos} (hc : L2H.HotC X) (h : PGs X es t) (hn : (assignEach es X.env).length = n := by rfl) (hst : (assignEach es X.env).findIdx? (·.1) = none := by rfl) : PG X (.Tuple es k pos) (gTup K n t) := by
  subst eK
  exact pg_tupH hc h hn hst
theorem call_isK {X : Cx} {K : PySem.W.Frag} (eK : X.K = K) {p : Addr × Obj} {cls : Value} {d : Option Addr} (hp : p ∈ X.pn) (hz : Zc cls d p.2) (hf : ∃ vs, p.2.data = .fields vs) : CallR X (.builtin "isinstance") (rIsQ K p.1 cls d) := by
  subst eK
  exact call_isQ hp hz hf
theorem huH {k : Nat} {A : Around} (r : L2H.RoomH k A) : A.units + 64 < cLine := by
  have := r.un
  omega
end
section
open PyProof.Rows L2H
theorem pe_callA {X : Cx} {CX : CXT} {k : Nat} {f : Addr} {fd : FuncData} {ps : List Str} {E : L2.St → XK} {x : Str} {q pos : Pos} {e : Expr} {es : List Expr} {t : TA} {sp : SpP} {a : Addr} {oe : Obj} {cls : Value} {d : Option Addr} (F : FnP X.prog X.w X.K X.mg X.base CX k f fd ps sp) (hr : RoomH k X.A) (hot : Hot1 X.A (a, oe)) (hp : (a, oe) ∈ X.pn) (hz : Zc cls d oe) (hg : Gl X x) (hm : X.mg x = some (.ref f)) (hk : PySem.W.keepIn X.K (.ref f) = true) (hb : Binds X.K fd ps [])
    (hx : ∀ σ, PassesAt CX X σ (E σ)) (ha : PA X (e :: es) t) (hdb : (x == ("__debug__" : Str)) = false := by decide) (he : starEach (e :: es) X.env = (false, eval e X.env) :: starEach es X.env := by rfl) (hpl : (backTo pos (starEach es X.env)).any (·.1) = false := by rfl) :
    PE X (.Call (.Name x q) (e :: es) [] pos) (tCallS (sp a cls d) E t) := pe_callP (p := (a, oe)) F hr hot hp hz hg hm hk hb hx ha hdb he hpl
theorem call_isA {X : Cx} {K : PySem.W.Frag} (eK : X.K = K) {a : Addr} {oe : Obj} {cls : Value} {d : Option Addr} (hp : (a, oe) ∈ X.pn) (hz : Zc cls d oe) (hf : ∃ vs, oe.data = .fields vs) : CallR X (.builtin "isinstance") (rIsQ K a cls d) := call_isK (p := (a, oe)) eK hp hz hf
theorem op_eqK {X : Cx} {K : PySem.W.Frag} (eK : X.K = K) (hu : X.A.units + 64 < cLine) : OpR X (compareOp .Eq) (rEqD K) := by
  subst eK
  exact op_eqD hu
end
section
def tJoinK (K : PySem.W.Frag) : V → List V → Hp → VK → Prop := fun x xs H Q => ∃ a p, ∃ ys : List Str, x = .str a ∧ xs = [.ref p] ∧ (SqL K H p (ys.map V.str) ∨ SqT K H p (ys.map V.str)) ∧ (ys.map (·.length)).sum + ys.length * a.length ≤ 16777216 ∧ Q (.str (Txt.join a ys)) H
theorem pe_joinK {X : Cx} {K : PySem.W.Frag} (eK : X.K = K) {o e : Expr} {to te : TE} {apos pos : Pos} (ho : PE X o to) (he : PE X e te) (hs : starEach [e] X.env = [(false, eval e X.env)] := by rfl) (hbase : attributeBase o "join" X.env (eval o X.env) = eval o X.env := by rfl) (hline : (apos.endLine == pos.line) = true := by rfl) :
    PE X (.Call (.Attribute o "join" apos) [e] [] pos) (tM1 (tJoinK K) to te) := by
  subst eK
  exact pe_join ho he hs hbase hline
end
/-! ### the four kinds of refusals -/
/-- what the program's class D is, asked by each of the names that the laws ask with -/
structure Kind (K : PySem.W.Frag) (a : Ad) (cls : Value) (d : Option Addr) (b1 b2 b3 b4 : Bool) : Prop where
  ex : ∃ D, cls = .ref D ∧ d = none ∧ ExcC K D ∧ PySem.W.kitOne K (.ref D) (.ref a.C_NoBase) = some b1 ∧ PySem.W.kitOne K (.ref D) (.ref a.C_NoNumber) = some b2 ∧ PySem.W.kitOne K (.ref D) (.ref a.C_Late) = some b3 ∧ PySem.W.kitOne K (.ref D) (.ref a.C_Bare) = some b4 ∧ PySem.W.kitOne K (.ref D) (.type "ValueError") = some true
def wordOf (b1 b2 b3 b4 : Bool) : List Str := (if b1 then [Str.ofString "base"] else []) ++ (if b2 then [Str.ofString "number"] else []) ++ (if b3 then [Str.ofString "late"] else []) ++ (if b4 then [Str.ofString "bare"] else [])
/-! ### the classes of the program, by name -/
theorem exc_c {K : PySem.W.Frag} {mg : Str → Option Value} {a : Ad} (T : Txt K mg a) {D : Addr} (h1 : PySem.W.findIn K (.ref D) "__getattribute__" = some (some (.builtin "BaseException.__getattribute__"))) (h2 : PySem.W.findIn K (.ref D) "__getattr__" = some none) (h3 : PySem.W.subIn K (.ref D) (.type "BaseException") = some true)
    (h4 : PySem.W.hasDictIn K D = true) (h5 : PySem.W.findIn K (.ref D) "__class__" = some (some (.builtin "object.__class__"))) (h6 : PySem.W.mroIn K D (.type "object") = some true) : ExcC K D := ⟨h1, h2, h3, h4, h5, T.en_o, T.et_o, h6⟩
theorem cls_some {K : PySem.W.Frag} {C : Addr} (h : PySem.W.hasDictIn K C = true) (ht : PySem.W.typeIn K (.ref C) = some (.type "type")) : ((PySem.W.clsIn K C).isSome && PySem.W.typeIn K (.ref C) == some (.type "type")) = true := by
  obtain ⟨cd, hc, _⟩ := PySem.W.any_some h
  rw [hc, ht]
  rfl
/-- isinstance of one of the program's classes, asked with another one -/
theorem kit_off {K : PySem.W.Frag} {C D : Addr} (h : PySem.W.hasDictIn K C = true) (ht : PySem.W.typeIn K (.ref C) = some (.type "type")) (hs : PySem.W.subIn K (.ref D) (.ref C) = some false) (hd : PySem.W.subIn K (.ref D) (.ref D) = some true) : PySem.W.kitOne K (.ref D) (.ref C) = some false := by
  have ne : D ≠ C := fun z => by
    rw [← z, hd] at hs
    cases hs
  unfold PySem.W.kitOne
  rw [if_neg (by simp [ne])]
  show (if ((PySem.W.clsIn K C).isSome && PySem.W.typeIn K (.ref C) == some (.type "type")) = true then PySem.W.subIn K (.ref D) (.ref C) else none) = _
  rw [if_pos (cls_some h ht)]
  exact hs
theorem kit_on {K : PySem.W.Frag} {D : Addr} : PySem.W.kitOne K (.ref D) (.ref D) = some true := by
  unfold PySem.W.kitOne
  rw [if_pos (by simp)]
theorem kit_val {K : PySem.W.Frag} {D : Addr} (h : PySem.W.subIn K (.ref D) (.type "ValueError") = some true) : PySem.W.kitOne K (.ref D) (.type "ValueError") = some true := by
  unfold PySem.W.kitOne
  rw [if_neg (by simp)]
  show (if PySem.W.kitMeta "ValueError" = true then PySem.W.subIn K (.ref D) (.type "ValueError") else none) = _
  rw [if_pos (by decide +kernel)]
  exact h
section
variable {K : PySem.W.Frag} {mg : Str → Option Value} {a : Ad}
theorem kind_NoBase (T : Txt K mg a) : Kind K a (.ref a.C_NoBase) none true false false false := ⟨_, rfl, rfl, exc_c T T.eg_NoBase T.ek_NoBase T.xb_NoBase T.ed_NoBase T.ea_NoBase T.em_NoBase, kit_on, kit_off T.ed_NoNumber T.xt_NoNumber T.q_NoBase_NoNumber T.q_NoBase_NoBase, kit_off T.ed_Late T.xt_Late T.q_NoBase_Late T.q_NoBase_NoBase, kit_off T.ed_Bare T.xt_Bare T.q_NoBase_Bare T.q_NoBase_NoBase, kit_val T.q_NoBase_V⟩
theorem exf_NoBase (T : Txt K mg a) : PySem.W.exmOne K (.ref a.C_NoBase) (.ref a.C_FallError) = some true := PySem.W.exm_ref T.xb_FallError T.ed_FallError T.xt_FallError T.e_NoBase
theorem exo_NoBase (T : Txt K mg a) : PySem.W.exmOne K (.ref a.C_NoBase) (.ref a.C_NoBase) = some true := PySem.W.exm_ref T.xb_NoBase T.ed_NoBase T.xt_NoBase T.q_NoBase_NoBase
theorem kind_NoNumber (T : Txt K mg a) : Kind K a (.ref a.C_NoNumber) none false true false false := ⟨_, rfl, rfl, exc_c T T.eg_NoNumber T.ek_NoNumber T.xb_NoNumber T.ed_NoNumber T.ea_NoNumber T.em_NoNumber, kit_off T.ed_NoBase T.xt_NoBase T.q_NoNumber_NoBase T.q_NoNumber_NoNumber, kit_on, kit_off T.ed_Late T.xt_Late T.q_NoNumber_Late T.q_NoNumber_NoNumber, kit_off T.ed_Bare T.xt_Bare T.q_NoNumber_Bare T.q_NoNumber_NoNumber, kit_val T.q_NoNumber_V⟩
theorem exf_NoNumber (T : Txt K mg a) : PySem.W.exmOne K (.ref a.C_NoNumber) (.ref a.C_FallError) = some true := PySem.W.exm_ref T.xb_FallError T.ed_FallError T.xt_FallError T.e_NoNumber
theorem exo_NoNumber (T : Txt K mg a) : PySem.W.exmOne K (.ref a.C_NoNumber) (.ref a.C_NoNumber) = some true := PySem.W.exm_ref T.xb_NoNumber T.ed_NoNumber T.xt_NoNumber T.q_NoNumber_NoNumber
theorem kind_Late (T : Txt K mg a) : Kind K a (.ref a.C_Late) none false false true false := ⟨_, rfl, rfl, exc_c T T.eg_Late T.ek_Late T.xb_Late T.ed_Late T.ea_Late T.em_Late, kit_off T.ed_NoBase T.xt_NoBase T.q_Late_NoBase T.q_Late_Late, kit_off T.ed_NoNumber T.xt_NoNumber T.q_Late_NoNumber T.q_Late_Late, kit_on, kit_off T.ed_Bare T.xt_Bare T.q_Late_Bare T.q_Late_Late, kit_val T.q_Late_V⟩
theorem exf_Late (T : Txt K mg a) : PySem.W.exmOne K (.ref a.C_Late) (.ref a.C_FallError) = some true := PySem.W.exm_ref T.xb_FallError T.ed_FallError T.xt_FallError T.e_Late
theorem exo_Late (T : Txt K mg a) : PySem.W.exmOne K (.ref a.C_Late) (.ref a.C_Late) = some true := PySem.W.exm_ref T.xb_Late T.ed_Late T.xt_Late T.q_Late_Late
theorem kind_Bare (T : Txt K mg a) : Kind K a (.ref a.C_Bare) none false false false true := ⟨_, rfl, rfl, exc_c T T.eg_Bare T.ek_Bare T.xb_Bare T.ed_Bare T.ea_Bare T.em_Bare, kit_off T.ed_NoBase T.xt_NoBase T.q_Bare_NoBase T.q_Bare_Bare, kit_off T.ed_NoNumber T.xt_NoNumber T.q_Bare_NoNumber T.q_Bare_Bare, kit_off T.ed_Late T.xt_Late T.q_Bare_Late T.q_Bare_Bare, kit_on, kit_val T.q_Bare_V⟩
theorem exf_Bare (T : Txt K mg a) : PySem.W.exmOne K (.ref a.C_Bare) (.ref a.C_FallError) = some true := PySem.W.exm_ref T.xb_FallError T.ed_FallError T.xt_FallError T.e_Bare
theorem exo_Bare (T : Txt K mg a) : PySem.W.exmOne K (.ref a.C_Bare) (.ref a.C_Bare) = some true := PySem.W.exm_ref T.xb_Bare T.ed_Bare T.xt_Bare T.q_Bare_Bare
end
theorem sc_need_base : FnScope ["base"] ["base"] (defScope s_need_base) := ⟨rfl, rfl, rfl, by decide +kernel, rfl, by decide +kernel, by decide +kernel⟩
def sp_need_base (a : Ad) : Sp := fun vs H Q E => ∃ b : Int, vs = [.int b] ∧ ((b < 2 ∨ 16 < b) → E (.ref a.C_NoBase) none H) ∧ (2 ≤ b → b ≤ 16 → Q .non H)
theorem ok_need_base {P : Program} {w : World} {K : PySem.W.Frag} {mg : Str → Option Value} {base : Heap} {a : Ad} (T : Txt K mg a) : FnOk P w K mg base (L2N.CX P w) 1 a.f_need_base a.d_need_base ["base"] (sp_need_base a) := by
  skip
  refine okN T.F_need_base sc_need_base (fun vs H Q E h => ?_) (fun cdv A outer s H vs Q E hr h => ?_)
  · obtain ⟨b, rfl, _⟩ := h
    rfl
  · obtain ⟨b, rfl, h1, h2⟩ := h
    refine ⟨_, (pss_one (ps_if (PW.pt (pw_or (pt_cmpR op_lt (pv 0) pe_int (nomark _)) (pw_or1 (pt_cmpR op_gt (pv 0) pe_int (nomark _))))) (pss_one (L2N.ps_raise rfl (L2N.takes_of rfl rfl rfl rfl) (L2N.pmk_own PySem.F.excBase_ValueError T.x_NoBase T.g_NoBase T.k_NoBase (raises_own T.xb_NoBase T.xt_NoBase) rfl))) pss_nil)), ?_⟩
    refine ⟨_, rfl, _, _, rfl, rfl, _, rfl, ifd (fun c => iteT (h1 (Or.inl c))) (fun c => ⟨_, rfl, _, _, rfl, rfl, _, rfl, ifd (fun d => h1 (Or.inr d)) (fun d => h2 (by omega) (by omega))⟩)⟩
theorem sc_read : FnScope ["line", "base", "number", "sign", "figure"] ["line", "base"] (defScope s_read) := ⟨rfl, rfl, rfl, by decide +kernel, rfl, by decide +kernel, by decide +kernel⟩
def sp_read (a : Ad) : Sp := fun vs H Q E => ∃ (l : List Nat) (b : Int), vs = [.str (mkS l), .int b] ∧ l.length ≤ 1000 ∧ ((b < 2 ∨ 16 < b) → E (.ref a.C_NoBase) none H) ∧
  (2 ≤ b → b ≤ 16 → readV b l = none → E (.ref a.C_NoNumber) none H) ∧ (2 ≤ b → b ≤ 16 → ∀ v, readV b l = some v → Q (.int v) H)
theorem ok_read {P : Program} {w : World} {K : PySem.W.Frag} {mg : Str → Option Value} {base : Heap} {a : Ad} (T : Txt K mg a) : FnOk P w K mg base (L2N.CX P w) 2 a.f_read a.d_read ["line", "base"] (sp_read a) := by
  have G_need_base := @ok_need_base P w K mg base a T
  refine okN T.F_read sc_read (fun vs H Q E h => ?_) (fun cdv A outer s H vs Q E hr h => ?_)
  · obtain ⟨_, _, rfl, _⟩ := h
    rfl
  · obtain ⟨l, b, rfl, hl, h1, h2, h3⟩ := h
    refine ⟨_, (pss_cons (ps_expr (pe_call G_need_base (hr.mono (by decide)) rfl T.m_need_base T.F_need_base.kp T.b_need_base .nil (L2N.passes_call (L2N.takes_of rfl rfl rfl rfl) (fun _ _ _ _ h => h)) (pa_cons (pv 1) pa_nil)))
      (pss_cons (ps_if (PW.pt (pw_or (pt_cmpR op_eq (pv 0) pe_str (nomark _)) (pw_or1 (PW.pt (pw_and (pt_cmpR op_eq (pe_ix ix_str (pv 0) pe_int (fun _ _ => rfl)) pe_str (nomark _)) (pw_and1 (pt_cmpR op_gt (pe_callB call_len rfl T.n_len PySem.boot_len (pa_cons (pv 0) pa_nil)) pe_int (nomark _)))))))) (pss_one (L2N.ps_raise rfl (L2N.takes_of rfl rfl rfl rfl) (L2N.pmk_own PySem.F.excBase_ValueError T.x_NoNumber T.g_NoNumber T.k_NoNumber (raises_own T.xb_NoNumber T.xt_NoNumber) rfl))) pss_nil)
      (pss_cons (ps_set (i := 2) sc_read.nd rfl (Or.inl rfl) pe_int)
      (pss_cons (ps_for (passes_of rfl) rfl (pi_str (pv 0)) (pg_name (i := 3) sc_read.nd rfl (Or.inl rfl)) (pss_cons (ps_set (i := 4) sc_read.nd rfl (Or.inl rfl) (pe_m1 PySem.F.slot_str_find PySem.F.type_str_find mt_find (pe_glob (v := .str (Str.ofString "0123456789abcdef")) rfl T.c_SIGNS.choose_spec ⟨_, rfl⟩) (pv 3)))
      (pss_cons (ps_if (PW.pt (pw_or (pt_cmpR op_lt (pv 4) pe_int (nomark _)) (pw_or1 (pt_cmpR op_ge (pv 4) (pv 1) (nomark _))))) (pss_one (L2N.ps_raise rfl (L2N.takes_of rfl rfl rfl rfl) (L2N.pmk_own PySem.F.excBase_ValueError T.x_NoNumber T.g_NoNumber T.k_NoNumber (raises_own T.xb_NoNumber T.xt_NoNumber) rfl))) pss_nil)
      (pss_one (ps_set (i := 2) sc_read.nd rfl (Or.inl rfl) (pe_op op_add (pe_op op_mulW (pv 2) (pv 1)) (pv 4)))))))
      (pss_one (ps_ret (pv 2))))))), ?_⟩
    have line : l.length ≤ sizeLine := Nat.le_of_lt (small1000 hl)
    refine ⟨_, rfl, b, rfl, h1, fun c1 c2 => ?_⟩
    have g2 := h2 c1 c2
    have g3 := h3 c1 c2
    dsimp only [tSeq, tIfS]
    refine or_det (ka := decide (l = [])) (kb := decide (l.head? = some 48 ∧ 1 < l.length)) ?A ?B _ ?C
    case A =>
      intro Q q
      refine ⟨_, rfl, rfl, _, rfl, ?_⟩
      show Q (decide (V.str (mkS l) = V.str (Str.ofString ""))) H
      rw [mkS_nil, dec_ss]
      have e : decide (mkS l = mkS []) = decide (l = []) := by
        by_cases z : l = []
        · subst z
          simp
        · rw [decide_eq_false z, decide_eq_false (fun y => z (mkS_inj y))]
      rw [e]
      exact q
    case B =>
      intro ka Q q
      have hne : l ≠ [] := of_decide_eq_false ka
      obtain ⟨c, r, rfl⟩ : ∃ c r, l = c :: r := by
        cases l with
        | nil => exact absurd rfl hne
        | cons c r => exact ⟨c, r, rfl⟩
      refine and_det (ka := decide (c = 48)) (kb := decide (1 < (c :: r).length)) ?A2 ?B2 _ ?C2
      case A2 =>
        intro Q q
        refine ⟨_, rfl, mkS (c :: r), 0, c, rfl, rfl, line, atI_nat (j := 0) rfl, rfl, _, rfl, ?_⟩
        show Q (decide (V.str (mkS [c]) = V.str (Str.ofString "0"))) H
        rw [mkS_zero, dec_ss]
        have e : decide (mkS [c] = mkS [48]) = decide (c = 48) := by
          by_cases z : c = 48
          · subst z
            simp
          · rw [decide_eq_false z, decide_eq_false (fun y => z (by have := mkS_inj y; simpa using this))]
        rw [e]
        exact q
      case B2 =>
        intro _ Q q
        refine ⟨_, rfl, _, _, rfl, ⟨line, rfl⟩, _, _, rfl, rfl, _, rfl, ?_⟩
        have e : decide ((1 : Int) < ((mkS (c :: r)).length : Int)) = decide (1 < (c :: r).length) := by
          rw [mkS_len]
          exact decide_eq_decide.mpr (by omega)
        rw [e]
        exact q
      case C2 =>
        have e : (decide (c = 48) && decide (1 < (c :: r).length)) = decide ((c :: r).head? = some 48 ∧ 1 < (c :: r).length) := by
          rw [Bool.eq_iff_iff]
          simp
        rw [e]
        exact q
    case C =>
      by_cases hz : l = [] ∨ (l.head? = some 48 ∧ 1 < l.length)
      · rw [if_pos (by rw [Bool.or_eq_true, decide_eq_true_eq, decide_eq_true_eq]; exact hz)]
        exact g2 (by unfold readV; rw [if_pos hz])
      · rw [if_neg (by rw [Bool.or_eq_true, decide_eq_true_eq, decide_eq_true_eq]; exact hz)]
        have er : readV b l = rd b 0 l := by
          unfold readV
          rw [if_neg hz]
        rw [er] at g2 g3
        refine ⟨_, rfl, _, rfl, for_it walk_str (fun i σ H' => ∃ (m : Int) (v w : Option V), H' = H ∧ σ = [some (.str (mkS l)), some (.int b), some (.int m), v, w] ∧ rd b 0 l = rd b m (l.drop i) ∧ rdB i m) ⟨0, none, none, rfl, rfl, rfl, Int.le_refl 0, by decide⟩ (fun _ _ _ _ _ => trivial) ?_ ?_⟩
        · rintro i x σ H1 H2 hi ⟨m, v, w, rfl, rfl, em, hm⟩ ⟨rfl, c, hc, rfl⟩
          have hc' : l[i]? = some c := by
            have : l.toArray[i]? = some c := hc
            rw [List.getElem?_toArray] at this
            exact this
          have hil : i < l.length := (List.getElem?_eq_some_iff.mp hc').1
          rw [drop_cons hc'] at em
          refine ⟨⟨_, rfl⟩, _, rfl, _, _, rfl, rfl, ?_⟩
          dsimp only
          refine or_det (ka := decide (fig c < 0)) (kb := decide (b ≤ fig c)) (fun Q q => ⟨_, rfl, _, _, rfl, rfl, _, rfl, q⟩) (fun _ Q q => ⟨_, rfl, _, rfl, _, _, rfl, rfl, _, rfl, q⟩) _ ?_
          by_cases hb : fig c < 0 ∨ b ≤ fig c
          · rw [if_pos (by rw [Bool.or_eq_true, decide_eq_true_eq, decide_eq_true_eq]; exact hb)]
            exact g2 (by rw [em, rd_bad hb])
          · rw [if_neg (by rw [Bool.or_eq_true, decide_eq_true_eq, decide_eq_true_eq]; exact hb)]
            have hf0 : 0 ≤ fig c := by omega
            have hfb : fig c < b := by omega
            rw [rd_ok hb] at em
            exact ⟨_, rfl, _, rfl, _, _, rfl, rfl, rdB_mul hm (by omega) c2 (by omega), _, rfl, _, _, rfl, rfl, m * b + fig c, some (.str (mkS [c])), some (.int (fig c)), rfl, rfl, em, rdB_next hm (by omega) c2 hf0 hfb⟩
        · rintro σ H1 ⟨m, v, w, rfl, rfl, em, hm⟩
          have e0 : (mkS l).cps.size = l.length := rfl
          rw [e0, List.drop_length] at em
          exact ⟨_, rfl, g3 m em⟩
theorem sc_l_cell_at : FnScope ["_law_script", "_law_k"] ["_law_script", "_law_k"] (defScope s_l_cell_at) := ⟨rfl, rfl, rfl, by decide +kernel, rfl, by decide +kernel, by decide +kernel⟩
def cellI (ns : List Int) (k : Nat) : Int := ns.getD k 0
def sp_l_cell_at (K : PySem.W.Frag) : Sp := fun vs H Q _ => ∃ (s : Addr) (ns : List Int) (k : Nat), vs = [.ref s, .int k] ∧ SqL K H s (ns.map V.int) ∧ Q (.int (cellI ns k)) H
theorem ok_l_cell_at {P : Program} {w : World} {K : PySem.W.Frag} {mg : Str → Option Value} {base : Heap} {a : Ad} (T : Txt K mg a) : FnOk P w K mg base CX0 1 a.f_l_cell_at a.d_l_cell_at ["_law_script", "_law_k"] (sp_l_cell_at K) := by
  skip
  refine T.F_l_cell_at.ok sc_l_cell_at (fun vs H Q E h => ?_) (fun cdv A outer s H vs Q E hr h => ?_)
  · obtain ⟨_, _, _, rfl, _⟩ := h
    rfl
  · obtain ⟨s, ns, k, rfl, hS, q⟩ := h
    refine ⟨_, (pss_cons (ps_if (pt_cmpR op_lt (pv 1) (pe_callB call_len rfl T.n_len PySem.boot_len (pa_cons (pv 0) pa_nil)) (nomark _)) (pss_one (ps_ret (pe_ix ix_list (pv 0) (pv 1) (fun _ _ => rfl)))) pss_nil)
      (pss_one (ps_ret pe_int))), ?_⟩
    refine ⟨_, rfl, _, rfl, _, _, rfl, Or.inl ⟨_, hS, rfl⟩, _, _, rfl, rfl, _, rfl, ifd (fun c => ?_) (fun c => ?_)⟩
    · rw [List.length_map] at c
      have hk : k < ns.length := by omega
      refine ⟨_, rfl, _, rfl, s, _, _, _, rfl, rfl, hS, atI_nat (j := k) (v := V.int (cellI ns k)) ?_, q⟩
      rw [List.getElem?_map, List.getElem?_eq_getElem hk]
      show some (V.int ns[k]) = some (V.int (ns.getD k 0))
      rw [List.getD_eq_getElem?_getD, List.getElem?_eq_getElem hk]
      rfl
    · rw [List.length_map] at c
      have hk : ns.length ≤ k := by omega
      have e : cellI ns k = 0 := by
        show ns.getD k 0 = 0
        rw [List.getD_eq_getElem?_getD, List.getElem?_eq_none hk]
        rfl
      rw [e] at q
      exact q
theorem sc_l_whole : FnScope ["_law_found"] ["_law_found"] (defScope s_l_whole) := ⟨rfl, rfl, rfl, by decide +kernel, rfl, by decide +kernel, by decide +kernel⟩
def sp_l_whole : Sp := fun vs H Q _ => ∃ i : Int, vs = [.int i] ∧ Q (.bl true) H
theorem ok_l_whole {P : Program} {w : World} {K : PySem.W.Frag} {mg : Str → Option Value} {base : Heap} {a : Ad} (T : Txt K mg a) : FnOk P w K mg base CX0 1 a.f_l_whole a.d_l_whole ["_law_found"] (sp_l_whole) := by
  skip
  refine T.F_l_whole.ok sc_l_whole (fun vs H Q E h => ?_) (fun cdv A outer s H vs Q E hr h => ?_)
  · obtain ⟨_, rfl, _⟩ := h
    rfl
  · obtain ⟨i, rfl, q⟩ := h
    refine ⟨_, (pss_one (ps_ret (pe_and (pe_callB call_isi rfl T.n_isinstance (by decide +kernel) (pa_cons (pv 0) (pa_cons (pe_bltn (v := .ty "int") rfl T.n_int (by decide +kernel) rfl) pa_nil))) (pe_one (pe_not (pe_callB call_isi rfl T.n_isinstance (by decide +kernel) (pa_cons (pv 0) (pa_cons (pe_bltn (v := .ty "bool") rfl T.n_bool (by decide +kernel) rfl) pa_nil)))))))), ?_⟩
    exact ⟨_, rfl, _, _, _, _, true, rfl, .ty "int", .base (.int i), kit_ty (by decide +kernel), true, rfl, iteT ⟨_, rfl, _, _, _, _, false, rfl, .ty "bool", .base (.int i), kit_ty (by decide +kernel), false, rfl, q⟩⟩
theorem sc_l_sign_by : FnScope ["_law_cell", "_law_some"] ["_law_cell"] (defScope s_l_sign_by) := ⟨rfl, rfl, rfl, by decide +kernel, rfl, by decide +kernel, by decide +kernel⟩
def sp_l_sign_by : Sp := fun vs H Q _ => ∃ c : Int, vs = [.int c] ∧ ∀ k : Nat, Q (.str (mkS [k])) H
theorem ok_l_sign_by {P : Program} {w : World} {K : PySem.W.Frag} {mg : Str → Option Value} {base : Heap} {a : Ad} (T : Txt K mg a) : FnOk P w K mg base CX0 1 a.f_l_sign_by a.d_l_sign_by ["_law_cell"] (sp_l_sign_by) := by
  skip
  refine T.F_l_sign_by.ok sc_l_sign_by (fun vs H Q E h => ?_) (fun cdv A outer s H vs Q E hr h => ?_)
  · obtain ⟨_, rfl, _⟩ := h
    rfl
  · obtain ⟨c, rfl, q⟩ := h
    refine ⟨_, (pss_cons (ps_set (i := 1) sc_l_sign_by.nd rfl (Or.inl rfl) pe_str)
      (pss_cons (ps_set (i := 1) sc_l_sign_by.nd rfl (Or.inl rfl) (pe_op op_add_str (pv 1) pe_str))
      (pss_one (ps_ret (pe_ix ix_str (pv 1) (pe_op op_mod (pv 0) pe_int) (fun _ _ => rfl)))))), ?_⟩
    have l1 : (Str.ofString "abcdefghijklmnopqrstuvwxyzABCDEFGHIJKLMNOPQRSTUVWXYZ0123456789" : Str).length = 62 := by decide +kernel
    have l2 : (Str.ofString " !\"#$&'()*+,-./:;<=>?\x40[\\]^_`{|}~\n\t" : Str).length = 34 := by decide +kernel
    refine ⟨_, rfl, _, _, rfl, rfl, ?_, ?_⟩
    · rw [l1, l2]
      decide
    generalize ez : ((Str.ofString "abcdefghijklmnopqrstuvwxyzABCDEFGHIJKLMNOPQRSTUVWXYZ0123456789" : Str) ++ Str.ofString " !\"#$&'()*+,-./:;<=>?\x40[\\]^_`{|}~\n\t") = z
    have lz : z.length = 96 := by
      rw [← ez, app_len, l1, l2]
    obtain ⟨j, ej, hj⟩ := modn c (m := 96) (by decide)
    have hj' : j < (TL.tl z).length := by
      rw [← TL.len_tl, lz]
      omega
    refine ⟨_, rfl, _, rfl, _, _, rfl, rfl, (by show (0 : Int) < 96; decide), z, _, (TL.tl z)[j], rfl, rfl, by rw [lz]; decide, ?_, q _⟩
    rw [ej]
    exact atI_nat (List.getElem?_eq_getElem hj')
theorem sc_l_line_by : FnScope ["_law_script", "_law_base", "_law_way", "_law_line", "_law_k", "_law_at", "_law_most", "_law_bad", "_law_cell"] ["_law_script", "_law_base"] (defScope s_l_line_by) := ⟨rfl, rfl, rfl, by decide +kernel, rfl, by decide +kernel, by decide +kernel⟩
def sp_l_line_by (K : PySem.W.Frag) : Sp := fun vs H Q _ => ∃ (x : Addr) (ns : List Int) (b : Nat), vs = [.ref x, .int b] ∧ 2 ≤ b ∧ b ≤ 16 ∧ SqL K H x (ns.map V.int) ∧ ∀ (l : List Nat) (H' : Hp), Same H H' → l.length ≤ 1000 → Q (.str (mkS l)) H'
theorem cut_s (l : List Nat) (lo hi : Option Int) : ∃ m, cutS (mkS l) lo hi = mkS m ∧ m.length ≤ l.length := ⟨(cutS (mkS l) lo hi).cps.toList, rfl, cutS_length (mkS l) lo hi⟩
theorem ok_l_line_by {P : Program} {w : World} {K : PySem.W.Frag} {mg : Str → Option Value} {base : Heap} {a : Ad} (T : Txt K mg a) : FnOk P w K mg base CX0 2 a.f_l_line_by a.d_l_line_by ["_law_script", "_law_base"] (sp_l_line_by K) := by
  have G_l_cell_at := @ok_l_cell_at P w K mg base a T
  have G_l_sign_by := @ok_l_sign_by P w K mg base a T
  refine T.F_l_line_by.ok sc_l_line_by (fun vs H Q E h => ?_) (fun cdv A outer s H vs Q E hr h => ?_)
  · obtain ⟨_, _, _, rfl, _⟩ := h
    rfl
  · obtain ⟨x, ns, b, rfl, h2, h16, hS, q⟩ := h
    refine ⟨_, (pss_cons (ps_set (i := 2) sc_l_line_by.nd rfl (Or.inl rfl) (pe_op op_mod (pe_call G_l_cell_at (hr.mono (by decide)) rfl T.m_l_cell_at T.F_l_cell_at.kp T.b_l_cell_at .nil pass0 (pa_cons (pv 0) (pa_cons pe_int pa_nil))) pe_int))
      (pss_cons (ps_set (i := 3) sc_l_line_by.nd rfl (Or.inl rfl) pe_str)
      (pss_cons (ps_if (pt_cmpR op_lt (pv 2) pe_int (nomark _)) (pss_cons (ps_for PassesOwn.never rfl (pi_range1 rfl T.n_range (pa_cons (pe_op op_mod (pe_call G_l_cell_at (hr.mono (by decide)) rfl T.m_l_cell_at T.F_l_cell_at.kp T.b_l_cell_at .nil pass0 (pa_cons (pv 0) (pa_cons pe_int pa_nil))) pe_int) pa_nil)) (pg_name (i := 4) sc_l_line_by.nd rfl (Or.inl rfl)) (pss_one (ps_set (i := 3) sc_l_line_by.nd rfl (Or.inl rfl) (pe_op op_add_str (pv 3) (pe_ix ix_str pe_str (pe_op op_mod (pe_call G_l_cell_at (hr.mono (by decide)) rfl T.m_l_cell_at T.F_l_cell_at.kp T.b_l_cell_at .nil pass0 (pa_cons (pv 0) (pa_cons (pe_op op_add pe_int (pv 4)) pa_nil))) (pe_ix ix_list (pe_lst (pa_cons pe_int (pa_cons (pv 1) pa_nil))) (pv 2) (fun _ _ => rfl))) (fun _ _ => rfl))))))
      (C8.pss_cut (ps_if (pt_cmpR op_eq (pv 2) pe_int (nomark _)) (pss_cons (ps_set (i := 5) sc_l_line_by.nd rfl (Or.inl rfl) (pe_op op_mod (pe_call G_l_cell_at (hr.mono (by decide)) rfl T.m_l_cell_at T.F_l_cell_at.kp T.b_l_cell_at .nil pass0 (pa_cons (pv 0) (pa_cons pe_int pa_nil))) (pe_op op_add (pe_callB call_len rfl T.n_len PySem.boot_len (pa_cons (pv 3) pa_nil)) pe_int)))
      (pss_one (ps_set (i := 3) sc_l_line_by.nd rfl (Or.inl rfl) (pe_op op_add_str (pe_op op_add_str (pe_slice sl_str (pv 3) po_none (po_some (pv 5))) (pe_call G_l_sign_by (hr.mono (by decide)) rfl T.m_l_sign_by T.F_l_sign_by.kp T.b_l_sign_by .nil pass0 (pa_cons (pe_call G_l_cell_at (hr.mono (by decide)) rfl T.m_l_cell_at T.F_l_cell_at.kp T.b_l_cell_at .nil pass0 (pa_cons (pv 0) (pa_cons pe_int pa_nil))) pa_nil))) (pe_slice sl_str (pv 3) (po_some (pv 5)) po_none))))) pss_nil)
      (pss_one (ps_ret (pv 3))))) pss_nil)
      (pss_cons (ps_set (i := 6) sc_l_line_by.nd rfl (Or.inl rfl) (pe_ix ix_list (pe_lst (pa_cons pe_int (pa_cons pe_int (pa_cons pe_int (pa_cons pe_int (pa_cons pe_int (pa_cons pe_int (pa_cons pe_int (pa_cons pe_int (pa_cons pe_int (pa_cons pe_int (pa_cons pe_int (pa_cons pe_int (pa_cons pe_int (pa_cons pe_int (pa_cons pe_int pa_nil)))))))))))))))) (pe_op op_sub (pv 1) pe_int) (fun _ _ => rfl)))
      (pss_cons (ps_set (i := 7) sc_l_line_by.nd rfl (Or.inl rfl) (pe_un un_neg pe_int))
      (C8.pss_cut (ps_if (pt_cmpR op_eq (pe_op op_mod (pe_call G_l_cell_at (hr.mono (by decide)) rfl T.m_l_cell_at T.F_l_cell_at.kp T.b_l_cell_at .nil pass0 (pa_cons (pv 0) (pa_cons pe_int pa_nil))) pe_int) pe_int (nomark _)) (pss_one (ps_set (i := 7) sc_l_line_by.nd rfl (Or.inl rfl) (pe_op op_mod (pe_op op_fdivW (pe_call G_l_cell_at (hr.mono (by decide)) rfl T.m_l_cell_at T.F_l_cell_at.kp T.b_l_cell_at .nil pass0 (pa_cons (pv 0) (pa_cons pe_int pa_nil))) pe_int) (pv 6)))) pss_nil)
      (pss_cons (ps_set (i := 8) sc_l_line_by.nd rfl (Or.inl rfl) (pe_call G_l_cell_at (hr.mono (by decide)) rfl T.m_l_cell_at T.F_l_cell_at.kp T.b_l_cell_at .nil pass0 (pa_cons (pv 0) (pa_cons pe_int pa_nil))))
      (pss_cons (ps_for PassesOwn.never rfl (pi_range1 rfl T.n_range (pa_cons (pe_op op_add pe_int (pe_op op_mod (pe_call G_l_cell_at (hr.mono (by decide)) rfl T.m_l_cell_at T.F_l_cell_at.kp T.b_l_cell_at .nil pass0 (pa_cons (pv 0) (pa_cons pe_int pa_nil))) (pv 6))) pa_nil)) (pg_name (i := 4) sc_l_line_by.nd rfl (Or.inl rfl)) (pss_one (ps_if (pt_cmpR op_eq (pv 4) (pv 7) (nomark _)) (pss_one (ps_set (i := 3) sc_l_line_by.nd rfl (Or.inl rfl) (pe_op op_add_str (pv 3) (pe_ix ix_str pe_str (pv 1) (fun _ _ => rfl))))) (pss_one (ps_set (i := 3) sc_l_line_by.nd rfl (Or.inl rfl) (pe_op op_add_str (pv 3) (pe_ix ix_str pe_str (pe_op op_mod (pe_op op_add (pe_op op_add (pv 8) (pe_op op_mulW (pv 4) (pe_op op_add pe_int (pe_op op_mod (pv 8) pe_int)))) (pe_callTy call_int1 rfl T.n_int (by decide +kernel) (pa_cons (pe_and (pe_cmpR op_eq (pv 4) pe_int (nomark _)) (pe_one (pe_cmpR op_eq (pe_op op_mod (pv 8) (pv 1)) pe_int (nomark _)))) pa_nil))) (pv 1)) (fun _ _ => rfl))))))))
      (pss_one (ps_ret (pv 3))))))))))), ?_⟩
    have cell : ∀ (H' : Hp), Same H H' → SqL K H' x (ns.map V.int) := fun H' s => s.seq hS
    have l16 : (Str.ofString "0123456789abcdef" : Str).length ≤ sizeLine := by decide +kernel
    have l17 : (Str.ofString "0123456789abcdefg" : Str).length ≤ sizeLine := by decide +kernel
    have sgn : ∀ (i : Int) (m : Nat), 0 < m → m ≤ 16 → ∃ c : Nat, atI (Str.ofString "0123456789abcdef" : Str).cps.toList (i % (m : Int)) = some c := fun i m hm hm2 => by
      obtain ⟨j, ej, hj⟩ := mod_nat i m hm
      rw [ej, mkS_signs]
      exact ⟨_, atI_nat (signs_at j (by omega))⟩
    have sz : ∀ {l : List Nat} {c : Nat}, l.length ≤ 1000 → (mkS l).length + (⟨#[c]⟩ : Str).length ≤ sizeLine := fun {l c} h => by
      show l.length + 1 ≤ sizeLine
      exact Nat.le_trans (show _ ≤ 1001 by omega) (by decide)
    obtain ⟨w, ew, hw⟩ := modn (cellI ns 1) (m := 3) (by decide)
    refine ⟨_, rfl, x, ns, 1, rfl, hS, _, _, rfl, rfl, (by show (0 : Int) < 3; decide), ?_⟩
    dsimp only
    rw [ew]
    refine ⟨_, rfl, _, _, rfl, rfl, _, rfl, ifd (fun cw => ?_) (fun cw => ?_)⟩
    · obtain ⟨j, ej, hj⟩ := modn (cellI ns 2) (m := 10) (by decide)
      refine ⟨_, rfl, x, ns, 2, rfl, hS, _, _, rfl, rfl, (by show (0 : Int) < 10; decide), _, rfl, by omega, by omega, ?_⟩
      refine for_range (lo := 0) (n := (cellI ns 2 % 10).toNat) (fun i σ H1 => ∃ (l : List Nat) (v4 : Option V), Same H H1 ∧ l.length = i ∧ σ = [some (.ref x), some (.int b), some (.int w), some (.str (mkS l)), v4, none, none, none, none]) ⟨[], none, Same.refl _, rfl, by rw [← mkS_nil]; rfl⟩ ?_ ?_
      · rintro i σ H1 hi ⟨l, v4, s1, el, rfl⟩
        have e3 : (3 : Int) + (0 + (i : Int)) = ((3 + i : Nat) : Int) := by omega
        refine ⟨_, rfl, _, rfl, _, rfl, _, _, rfl, rfl, x, ns, 3 + i, congrArg (fun z => [V.ref x, V.int z]) e3, cell _ s1, ?_⟩
        refine ⟨_, rfl, (by show 2 ≤ sizeLine; decide), fun t ht => ?_⟩
        obtain ⟨m, hm0, hm1, em⟩ : ∃ m : Nat, 0 < m ∧ m ≤ 16 ∧ atI [V.int 16, V.int b] (w : Int) = some (V.int m) := by
          have : w = 0 ∨ w = 1 := by omega
          rcases this with rfl | rfl
          · exact ⟨16, by decide, by decide, atI_nat (j := 0) rfl⟩
          · exact ⟨b, by omega, h16, atI_nat (j := 1) rfl⟩
        obtain ⟨c, ec⟩ := sgn (cellI ns (3 + i)) m hm0 hm1
        refine ⟨_, rfl, t, _, _, _, rfl, rfl, SqL.of upd_same, em, _, _, rfl, rfl, (by show (0 : Int) < (m : Int); omega), _, _, c, rfl, rfl, l16, ec, _, _, rfl, rfl, sz (by omega), l ++ [c], some (.int (0 + (i : Int))), s1.trans (same_upd1 ht), by rw [List.length_append, el]; rfl, ?_⟩
        rw [← mkS_app]
        rfl
      · rintro σ H1 ⟨l, v4, s1, el, rfl⟩
        refine ⟨fun σ' H' => ∃ (m : List Nat) (v5 : Option V), Same H H' ∧ m.length ≤ 1000 ∧ σ' = [some (.ref x), some (.int b), some (.int w), some (.str (mkS m)), v4, v5, none, none, none], ?_, ?_⟩
        · refine ⟨_, rfl, rfl, _, rfl, ifi (fun _ => ?_) (fun _ => ⟨l, none, s1, by omega, rfl⟩)⟩
          obtain ⟨k, ek, hk⟩ := modn (cellI ns 13) (m := ((mkS l).length : Nat) + 1) (by omega)
          have hkl : k ≤ l.length := by
            rw [mkS_len] at hk
            omega
          have ll : l.length ≤ 10 := by omega
          have lz : (mkS l).length ≤ sizeLine := Nat.le_trans (show l.length ≤ 10 from ll) (by decide)
          refine ⟨_, rfl, x, ns, 13, rfl, cell _ s1, _, rfl, _, _, rfl, ⟨lz, rfl⟩, _, _, rfl, rfl, _, _, rfl, rfl, (by show (0 : Int) < ((mkS l).length : Nat) + 1; omega), ?_⟩
          dsimp only
          rw [ek]
          obtain ⟨m1, e1, lm1⟩ := cut_s l none (some (k : Int))
          obtain ⟨m2, e2, lm2⟩ := cut_s l (some (k : Int)) none
          refine ⟨_, rfl, _, rfl, _, rfl, _, rfl, lz, ?_⟩
          rw [e1]
          refine ⟨_, rfl, x, ns, 14, rfl, cell _ s1, _, rfl, fun c => ?_⟩
          refine ⟨_, _, rfl, rfl, sz (by omega), _, rfl, _, rfl, _, rfl, _, rfl, lz, ?_⟩
          rw [e2]
          refine ⟨_, _, rfl, rfl, ?_, m1 ++ [c] ++ m2, some (.int k), s1, ?_, ?_⟩
          · rw [app_len]
            show m1.length + 1 + m2.length ≤ sizeLine
            exact Nat.le_trans (show _ ≤ 100 by omega) (by decide)
          · rw [List.length_append, List.length_append]
            show m1.length + 1 + m2.length ≤ 1000
            omega
          · rw [← mkS_app, ← mkS_app]
            rfl
        · rintro σ' H' ⟨m, v5, s', lm, rfl⟩
          exact ⟨_, rfl, q m H' s' lm⟩
    · refine ⟨(by show 15 ≤ sizeLine; decide), fun t ht => ?_⟩
      have s0 : Same H (upd H t (.lst [.int 830, .int 523, .int 415, .int 357, .int 321, .int 295, .int 276, .int 261, .int 250, .int 240, .int 231, .int 224, .int 218, .int 212, .int 207])) := same_upd1 ht
      obtain ⟨d, hd⟩ : ∃ d : Nat, b = d + 2 := ⟨b - 2, by omega⟩
      obtain ⟨m, hm0, hm1, em⟩ : ∃ m : Nat, 0 < m ∧ m ≤ 830 ∧ atI [V.int 830, V.int 523, V.int 415, V.int 357, V.int 321, V.int 295, V.int 276, V.int 261, V.int 250, V.int 240, V.int 231, V.int 224, V.int 218, V.int 212, V.int 207] ((b : Int) - 2) = some (V.int m) := by
        have e : (b : Int) - 2 = (d : Int) := by omega
        rw [e]
        have hd2 : d < 15 := by omega
        have : ∀ k : Fin 15, ∃ m : Nat, 0 < m ∧ m ≤ 830 ∧ ([V.int 830, V.int 523, V.int 415, V.int 357, V.int 321, V.int 295, V.int 276, V.int 261, V.int 250, V.int 240, V.int 231, V.int 224, V.int 218, V.int 212, V.int 207] : List V)[k.val]? = some (V.int m) := fun k => by
          match k with
          | 0 => exact ⟨830, by decide, by decide, rfl⟩
          | 1 => exact ⟨523, by decide, by decide, rfl⟩
          | 2 => exact ⟨415, by decide, by decide, rfl⟩
          | 3 => exact ⟨357, by decide, by decide, rfl⟩
          | 4 => exact ⟨321, by decide, by decide, rfl⟩
          | 5 => exact ⟨295, by decide, by decide, rfl⟩
          | 6 => exact ⟨276, by decide, by decide, rfl⟩
          | 7 => exact ⟨261, by decide, by decide, rfl⟩
          | 8 => exact ⟨250, by decide, by decide, rfl⟩
          | 9 => exact ⟨240, by decide, by decide, rfl⟩
          | 10 => exact ⟨231, by decide, by decide, rfl⟩
          | 11 => exact ⟨224, by decide, by decide, rfl⟩
          | 12 => exact ⟨218, by decide, by decide, rfl⟩
          | 13 => exact ⟨212, by decide, by decide, rfl⟩
          | 14 => exact ⟨207, by decide, by decide, rfl⟩
        obtain ⟨m, h1, h2, h3⟩ := this ⟨d, hd2⟩
        exact ⟨m, h1, h2, atI_nat h3⟩
      refine ⟨_, rfl, _, _, rfl, rfl, t, _, _, _, rfl, rfl, SqL.of upd_same, em, 1, rfl, ?_⟩
      generalize upd H t (.lst [.int 830, .int 523, .int 415, .int 357, .int 321, .int 295, .int 276, .int 261, .int 250, .int 240, .int 231, .int 224, .int 218, .int 212, .int 207]) = H0 at s0 ⊢
      refine ⟨fun σ' H' => ∃ bad : Int, H' = H0 ∧ σ' = [some (.ref x), some (.int b), some (.int w), some (.str (mkS [])), none, none, some (.int m), some (.int bad), none], ?_, ?_⟩
      · refine ⟨_, rfl, x, ns, 3, rfl, cell _ s0, _, _, rfl, rfl, (by show (0 : Int) < 3; decide), rfl, _, rfl, ifi (fun _ => ?_) (fun _ => ⟨-1, rfl, by rw [← mkS_nil]; rfl⟩)⟩
        exact ⟨_, rfl, x, ns, 3, rfl, cell _ s0, _, _, rfl, rfl, divW (by decide) (by decide), _, rfl, _, _, rfl, rfl, (by show (0 : Int) < (m : Int); omega), _, rfl, by rw [← mkS_nil]; rfl⟩
      rintro σ1 H1 ⟨bad, rfl, rfl⟩
      obtain ⟨n, en, hn⟩ := modn (cellI ns 2) (m := (m : Int)) (by omega)
      refine ⟨_, rfl, x, ns, 4, rfl, cell _ s0, ?_⟩
      refine ⟨_, rfl, x, ns, 2, rfl, cell _ s0, _, rfl, _, _, rfl, rfl, (by show (0 : Int) < (m : Int); omega), _, _, rfl, rfl, _, rfl, by omega, by omega, ?_⟩
      refine for_range (lo := 0) (n := (1 + cellI ns 2 % (m : Int)).toNat) (fun i σ H2 => ∃ (l : List Nat) (v4 : Option V), H2 = H1 ∧ l.length = i ∧ σ = [some (.ref x), some (.int b), some (.int w), some (.str (mkS l)), v4, none, some (.int m), some (.int bad), some (.int (cellI ns 4))]) ⟨[], none, rfl, rfl, rfl⟩ ?_ ?_
      · rintro i σ H2 hi ⟨l, v4, rfl, el, rfl⟩
        have fin : ∀ (c : Nat), mkS l ++ (⟨#[c]⟩ : Str) = mkS (l ++ [c]) := fun c => by rw [← mkS_app]; rfl
        refine ⟨_, rfl, _, rfl, rfl, _, rfl, ifi (fun _ => ?_) (fun _ => ?_)⟩
        · obtain ⟨c, ec⟩ : ∃ c : Nat, atI (Str.ofString "0123456789abcdefg" : Str).cps.toList (b : Int) = some c := by
            have hl : (Str.ofString "0123456789abcdefg" : Str).cps.toList.length = 17 := by decide +kernel
            exact ⟨_, atI_nat (List.getElem?_eq_getElem (by rw [hl]; omega))⟩
          refine ⟨_, rfl, _, rfl, _, _, c, rfl, rfl, l17, ec, _, _, rfl, rfl, sz (by omega), l ++ [c], some (.int (0 + (i : Int))), rfl, by rw [List.length_append, el]; rfl, ?_⟩
          rw [← fin]
          rfl
        · obtain ⟨f, ef, hf⟩ := modn (cellI ns 4) (m := 7) (by decide)
          refine ⟨_, rfl, _, rfl, _, rfl, _, rfl, _, _, rfl, rfl, (by show (0 : Int) < 7; decide), _, _, rfl, rfl, _, _, rfl, rfl, mulS (by omega) (by omega) (by omega) (by omega), _, _, rfl, rfl, _, rfl, rfl, _, rfl, ?_⟩
          split
          · exact ⟨_, rfl, _, rfl, _, _, rfl, rfl, (by show (0 : Int) < (b : Int); omega), rfl, Or.inr ⟨_, rfl, _, _, rfl, rfl, _, rfl, _, _, rfl, rfl, (by show (0 : Int) < (b : Int); omega), _, _, (sgn _ b (by omega) h16).choose, rfl, rfl, l16, (sgn _ b (by omega) h16).choose_spec, _, _, rfl, rfl, sz (by omega), l ++ [(sgn _ b (by omega) h16).choose], some (.int (0 + (i : Int))), rfl, by rw [List.length_append, el]; rfl, by rw [← fin]; rfl⟩⟩
          · exact Or.inr ⟨_, rfl, _, _, rfl, rfl, _, rfl, _, _, rfl, rfl, (by show (0 : Int) < (b : Int); omega), _, _, (sgn _ b (by omega) h16).choose, rfl, rfl, l16, (sgn _ b (by omega) h16).choose_spec, _, _, rfl, rfl, sz (by omega), l ++ [(sgn _ b (by omega) h16).choose], some (.int (0 + (i : Int))), rfl, by rw [List.length_append, el]; rfl, by rw [← fin]; rfl⟩
      · rintro σ H2 ⟨l, v4, rfl, el, rfl⟩
        exact ⟨_, rfl, q l _ s0 (by omega)⟩
theorem sc_l_due_of : FnScope ["_law_line", "_law_base", "_law_made", "_law_sign", "_law_figure"] ["_law_line", "_law_base"] (defScope s_l_due_of) := ⟨rfl, rfl, rfl, by decide +kernel, rfl, by decide +kernel, by decide +kernel⟩
def sp_l_due_of : Sp := fun vs H Q _ => ∃ (l : List Nat) (b : Int), vs = [.str (mkS l), .int b] ∧ l.length ≤ 1000 ∧ 2 ≤ b ∧ b ≤ 16 ∧ (readV b l = none → Q (.int (-1)) H) ∧ (∀ v, readV b l = some v → Q (.int v) H)
theorem ok_l_due_of {P : Program} {w : World} {K : PySem.W.Frag} {mg : Str → Option Value} {base : Heap} {a : Ad} (T : Txt K mg a) : FnOk P w K mg base CX0 1 a.f_l_due_of a.d_l_due_of ["_law_line", "_law_base"] (sp_l_due_of) := by
  skip
  refine T.F_l_due_of.ok sc_l_due_of (fun vs H Q E h => ?_) (fun cdv A outer s H vs Q E hr h => ?_)
  · obtain ⟨_, _, rfl, _⟩ := h
    rfl
  · obtain ⟨l, b, rfl, hl, c1, c2, g2', g3⟩ := h
    refine ⟨_, (pss_cons (ps_if (PW.pt (pw_or (pt_cmpR op_eq (pv 0) pe_str (nomark _)) (pw_or1 (PW.pt (pw_and (pt_cmpR op_eq (pe_ix ix_str (pv 0) pe_int (fun _ _ => rfl)) pe_str (nomark _)) (pw_and1 (pt_cmpR op_gt (pe_callB call_len rfl T.n_len PySem.boot_len (pa_cons (pv 0) pa_nil)) pe_int (nomark _)))))))) (pss_one (ps_ret (pe_un un_neg pe_int))) pss_nil)
      (pss_cons (ps_set (i := 2) sc_l_due_of.nd rfl (Or.inl rfl) pe_int)
      (pss_cons (ps_for PassesOwn.never rfl (pi_str (pv 0)) (pg_name (i := 3) sc_l_due_of.nd rfl (Or.inl rfl)) (pss_cons (ps_set (i := 4) sc_l_due_of.nd rfl (Or.inl rfl) (pe_m1 PySem.F.slot_str_find PySem.F.type_str_find mt_find pe_str (pv 3)))
      (pss_cons (ps_if (PW.pt (pw_or (pt_cmpR op_lt (pv 4) pe_int (nomark _)) (pw_or1 (pt_cmpR op_ge (pv 4) (pv 1) (nomark _))))) (pss_one (ps_ret (pe_un un_neg pe_int))) pss_nil)
      (pss_one (ps_set (i := 2) sc_l_due_of.nd rfl (Or.inl rfl) (pe_op op_add (pe_op op_mulW (pv 2) (pv 1)) (pv 4)))))))
      (pss_one (ps_ret (pv 2)))))), ?_⟩
    have line : l.length ≤ sizeLine := Nat.le_of_lt (small1000 hl)
    have g2 : readV b l = none → ∃ i, V.int 1 = V.int i ∧ Q (.int (-i)) H := fun z => ⟨1, rfl, g2' z⟩
    dsimp only [tSeq, tIfS]
    refine or_det (ka := decide (l = [])) (kb := decide (l.head? = some 48 ∧ 1 < l.length)) ?A ?B _ ?C
    case A =>
      intro Q q
      refine ⟨_, rfl, rfl, _, rfl, ?_⟩
      show Q (decide (V.str (mkS l) = V.str (Str.ofString ""))) H
      rw [mkS_nil, dec_ss]
      have e : decide (mkS l = mkS []) = decide (l = []) := by
        by_cases z : l = []
        · subst z
          simp
        · rw [decide_eq_false z, decide_eq_false (fun y => z (mkS_inj y))]
      rw [e]
      exact q
    case B =>
      intro ka Q q
      have hne : l ≠ [] := of_decide_eq_false ka
      obtain ⟨c, r, rfl⟩ : ∃ c r, l = c :: r := by
        cases l with
        | nil => exact absurd rfl hne
        | cons c r => exact ⟨c, r, rfl⟩
      refine and_det (ka := decide (c = 48)) (kb := decide (1 < (c :: r).length)) ?A2 ?B2 _ ?C2
      case A2 =>
        intro Q q
        refine ⟨_, rfl, mkS (c :: r), 0, c, rfl, rfl, line, atI_nat (j := 0) rfl, rfl, _, rfl, ?_⟩
        show Q (decide (V.str (mkS [c]) = V.str (Str.ofString "0"))) H
        rw [mkS_zero, dec_ss]
        have e : decide (mkS [c] = mkS [48]) = decide (c = 48) := by
          by_cases z : c = 48
          · subst z
            simp
          · rw [decide_eq_false z, decide_eq_false (fun y => z (by have := mkS_inj y; simpa using this))]
        rw [e]
        exact q
      case B2 =>
        intro _ Q q
        refine ⟨_, rfl, _, _, rfl, ⟨line, rfl⟩, _, _, rfl, rfl, _, rfl, ?_⟩
        have e : decide ((1 : Int) < ((mkS (c :: r)).length : Int)) = decide (1 < (c :: r).length) := by
          rw [mkS_len]
          exact decide_eq_decide.mpr (by omega)
        rw [e]
        exact q
      case C2 =>
        have e : (decide (c = 48) && decide (1 < (c :: r).length)) = decide ((c :: r).head? = some 48 ∧ 1 < (c :: r).length) := by
          rw [Bool.eq_iff_iff]
          simp
        rw [e]
        exact q
    case C =>
      by_cases hz : l = [] ∨ (l.head? = some 48 ∧ 1 < l.length)
      · rw [if_pos (by rw [Bool.or_eq_true, decide_eq_true_eq, decide_eq_true_eq]; exact hz)]
        exact g2 (by unfold readV; rw [if_pos hz])
      · rw [if_neg (by rw [Bool.or_eq_true, decide_eq_true_eq, decide_eq_true_eq]; exact hz)]
        have er : readV b l = rd b 0 l := by
          unfold readV
          rw [if_neg hz]
        rw [er] at g2 g3
        refine ⟨_, rfl, _, rfl, for_it walk_str (fun i σ H' => ∃ (m : Int) (v w : Option V), H' = H ∧ σ = [some (.str (mkS l)), some (.int b), some (.int m), v, w] ∧ rd b 0 l = rd b m (l.drop i) ∧ rdB i m) ⟨0, none, none, rfl, rfl, rfl, Int.le_refl 0, by decide⟩ (fun _ _ _ _ _ => trivial) ?_ ?_⟩
        · rintro i x σ H1 H2 hi ⟨m, v, w, rfl, rfl, em, hm⟩ ⟨rfl, c, hc, rfl⟩
          have hc' : l[i]? = some c := by
            have : l.toArray[i]? = some c := hc
            rw [List.getElem?_toArray] at this
            exact this
          have hil : i < l.length := (List.getElem?_eq_some_iff.mp hc').1
          rw [drop_cons hc'] at em
          refine ⟨⟨_, rfl⟩, _, rfl, _, _, rfl, rfl, ?_⟩
          dsimp only
          refine or_det (ka := decide (fig c < 0)) (kb := decide (b ≤ fig c)) (fun Q q => ⟨_, rfl, _, _, rfl, rfl, _, rfl, q⟩) (fun _ Q q => ⟨_, rfl, _, rfl, _, _, rfl, rfl, _, rfl, q⟩) _ ?_
          by_cases hb : fig c < 0 ∨ b ≤ fig c
          · rw [if_pos (by rw [Bool.or_eq_true, decide_eq_true_eq, decide_eq_true_eq]; exact hb)]
            exact g2 (by rw [em, rd_bad hb])
          · rw [if_neg (by rw [Bool.or_eq_true, decide_eq_true_eq, decide_eq_true_eq]; exact hb)]
            have hf0 : 0 ≤ fig c := by omega
            have hfb : fig c < b := by omega
            rw [rd_ok hb] at em
            exact ⟨_, rfl, _, rfl, _, _, rfl, rfl, rdB_mul hm (by omega) c2 (by omega), _, rfl, _, _, rfl, rfl, m * b + fig c, some (.str (mkS [c])), some (.int (fig c)), rfl, rfl, em, rdB_next hm (by omega) c2 hf0 hfb⟩
        · rintro σ H1 ⟨m, v, w, rfl, rfl, em, hm⟩
          have e0 : (mkS l).cps.size = l.length := rfl
          rw [e0, List.drop_length] at em
          exact ⟨_, rfl, g3 m em⟩
theorem sc_l_words : FnScope ["_law_e", "_law_some", "_law_found", "_law_word", "_law_fits"] ["_law_e"] (defScope s_l_words) := ⟨rfl, rfl, rfl, by decide +kernel, rfl, by decide +kernel, by decide +kernel⟩
def sp_l_words (K : PySem.W.Frag) (ad : Ad) : SpP := fun a cls d vs H Q _ => ∃ b1 b2 b3 b4 : Bool, Kind K ad cls d b1 b2 b3 b4 ∧ wordOf b1 b2 b3 b4 ≠ [] ∧ vs = [.ref a] ∧ ∀ (l : Addr) (H' : Hp), Same H H' → H l = none → H' l = some (.lst ((wordOf b1 b2 b3 b4).map V.str)) → Q (.ref l) H'
def fits (W : List (Str × Bool)) (i : Nat) : List Str := ((W.take i).filter (·.2)).map (·.1)
def FitAt (H : Hp) (t : Addr) (r : Str × Bool) : Prop := H t = some (.tup [.str r.1, .bl r.2])
theorem ok_l_words {P : Program} {w : World} {K : PySem.W.Frag} {mg : Str → Option Value} {base : Heap} {a : Ad} (T : Txt K mg a) : FnP P w K mg base CX0 1 a.f_l_words a.d_l_words ["_law_e"] (sp_l_words K a) := by
  skip
  refine okP T.F_l_words sc_l_words (fun a0 cls d vs H Q E h => ?_) (fun cdv A outer s H vs Q E p cls d hot hz hr h => ?_)
  · obtain ⟨_, _, _, _, _, _, rfl, _⟩ := h
    rfl
  · obtain ⟨b1, b2, b3, b4, ⟨D, ec, ed, EC, k1, k2, k3, k4, k5⟩, ne, rfl, q⟩ := h
    refine ⟨_, (pss_cons (ps_set (i := 1) sc_l_words.nd rfl (Or.inl rfl) (pe_lst (pa_cons (pe_tup (pa_cons pe_str (pa_cons (pe_callB (call_isK (K := K) rfl (p := p) List.mem_cons_self hz (hot_f hot)) rfl T.n_isinstance (by decide +kernel) (pa_cons (pv 0) (pa_cons (pe_glob (v := .ref a.C_NoBase) rfl T.g_NoBase rfl) pa_nil))) pa_nil))) (pa_cons (pe_tup (pa_cons pe_str (pa_cons (pe_callB (call_isK (K := K) rfl (p := p) List.mem_cons_self hz (hot_f hot)) rfl T.n_isinstance (by decide +kernel) (pa_cons (pv 0) (pa_cons (pe_glob (v := .ref a.C_NoNumber) rfl T.g_NoNumber rfl) pa_nil))) pa_nil))) (pa_cons (pe_tup (pa_cons pe_str (pa_cons (pe_callB (call_isK (K := K) rfl (p := p) List.mem_cons_self hz (hot_f hot)) rfl T.n_isinstance (by decide +kernel) (pa_cons (pv 0) (pa_cons (pe_glob (v := .ref a.C_Late) rfl T.g_Late rfl) pa_nil))) pa_nil))) pa_nil)))))
      (pss_cons (ps_expr (pe_bm PySem.F.plainAttrs_list PySem.F.slot_list_append PySem.F.type_list_append mt_append (pv 1) (pa_cons (pe_tup (pa_cons pe_str (pa_cons (pe_callB (call_isK (K := K) rfl (p := p) List.mem_cons_self hz (hot_f hot)) rfl T.n_isinstance (by decide +kernel) (pa_cons (pv 0) (pa_cons (pe_glob (v := .ref a.C_Bare) rfl T.g_Bare rfl) pa_nil))) pa_nil))) pa_nil)))
      (pss_cons (ps_setLcH (i := 2) (own := [("_law_word", 3), ("_law_fits", 4)]) (p := p) hot List.mem_cons_self sc_l_words.nd rfl rfl (sw_true rfl rfl rfl (by decide +kernel)) (pi_listH (pv 1)) (blkOk_by (N := ["_law_e", "_law_some", "_law_found", "_law_word", "_law_fits"]) (sc := defScope s_l_words) (by decide +kernel)) (fun _ _ _ _ _ => (pg_tupK (K := K) (n := 2) rfl ⟨p, hot, List.mem_cons_self⟩ (pgs_cons (pg_name (i := 3) sc_l_words.nd rfl (Or.inl rfl)) (pgs_cons (pg_name (i := 4) sc_l_words.nd rfl (Or.inl rfl)) pgs_nil)))) (fun _ _ _ _ _ => pts_one (PW.pt (pw_and (pt_val (pv 4)) (pw_and1 (pt_val (pe_callB (call_isK (K := K) rfl (p := p) List.mem_cons_self hz (hot_f hot)) rfl T.n_isinstance (by decide +kernel) (pa_cons (pv 0) (pa_cons (pe_bltn (v := .ty "ValueError") rfl T.n_ValueError (by decide +kernel) rfl) pa_nil)))))))) (fun _ _ _ _ _ => (pv 3)))
      (pss_cons (ps_if (pt_cmpR (op_eqD (huH hr)) (pv 2) (pe_lst pa_nil) (nomark _)) (pss_one (ps_ret (pe_lst (pa_cons pe_str pa_nil)))) pss_nil)
      (pss_one (ps_ret (pv 2))))))), ?_⟩
    have two : 2 ≤ sizeLine := by decide
    refine ⟨_, rfl, D, ec, ed, EC, _, _, b1, rfl, fun u r => r, k1, two, fun t1 h1 => ⟨_, rfl, D, ec, ed, EC, _, _, b2, rfl, fun u r => r, k2, two, fun t2 h2 => ⟨_, rfl, D, ec, ed, EC, _, _, b3, rfl, fun u r => r, k3, two, fun t3 h3 => ⟨(by show 3 ≤ sizeLine; decide), fun l hl => ?_⟩⟩⟩⟩
    have s1 : Same H (upd H t1 (.tup [.str (Str.ofString "base"), .bl b1])) := same_upd1 h1
    have e1 : (upd H t1 (.tup [.str (Str.ofString "base"), .bl b1])) t1 = some (.tup [.str (Str.ofString "base"), .bl b1]) := upd_same
    generalize upd H t1 (.tup [.str (Str.ofString "base"), .bl b1]) = H1 at s1 e1 h2 h3 hl ⊢
    have s2 : Same H1 (upd H1 t2 (.tup [.str (Str.ofString "number"), .bl b2])) := same_upd1 h2
    have e2 : (upd H1 t2 (.tup [.str (Str.ofString "number"), .bl b2])) t2 = some (.tup [.str (Str.ofString "number"), .bl b2]) := upd_same
    generalize upd H1 t2 (.tup [.str (Str.ofString "number"), .bl b2]) = H2 at s2 e2 h3 hl ⊢
    have s3 : Same H2 (upd H2 t3 (.tup [.str (Str.ofString "late"), .bl b3])) := same_upd1 h3
    have e3 : (upd H2 t3 (.tup [.str (Str.ofString "late"), .bl b3])) t3 = some (.tup [.str (Str.ofString "late"), .bl b3]) := upd_same
    generalize upd H2 t3 (.tup [.str (Str.ofString "late"), .bl b3]) = H3 at s3 e3 hl ⊢
    have s4 : Same H3 (upd H3 l (.lst [.ref t1, .ref t2, .ref t3])) := same_upd1 hl
    have e4 : (upd H3 l (.lst [.ref t1, .ref t2, .ref t3])) l = some (.lst [.ref t1, .ref t2, .ref t3]) := upd_same
    generalize upd H3 l (.lst [.ref t1, .ref t2, .ref t3]) = H4 at s4 e4 ⊢
    refine ⟨_, rfl, Or.inl ⟨rfl, _, SqL.of e4⟩, _, rfl, D, ec, ed, EC, _, _, b4, rfl, fun u r => r, k4, two, fun t4 h4 => ?_⟩
    have nlt : l ≠ t4 := ne_of_none e4 h4
    refine ⟨l, _, _, rfl, rfl, by rw [upd_ne nlt]; exact e4, (by show 3 < sizeLine; decide), ?_⟩
    have hlH : H l = none := (s1.trans (s2.trans s3)).free hl
    have s6 : Same H (upd (upd H4 t4 (.tup [.str (Str.ofString "bare"), .bl b4])) l (.lst ([.ref t1, .ref t2, .ref t3] ++ [.ref t4]))) := fun c o e => by
      rw [upd_ne (ne_of_none e hlH), upd_ne (ne_of_none ((s1.trans (s2.trans (s3.trans s4))) _ _ e) h4)]
      exact (s1.trans (s2.trans (s3.trans s4))) _ _ e
    have e6 : (upd (upd H4 t4 (.tup [.str (Str.ofString "bare"), .bl b4])) l (.lst ([.ref t1, .ref t2, .ref t3] ++ [.ref t4]))) l = some (.lst ([t1, t2, t3, t4].map V.ref)) := upd_same
    have kt : ∀ (t : Addr) (xs : List V), H4 t = some (.tup xs) → (upd (upd H4 t4 (.tup [.str (Str.ofString "bare"), .bl b4])) l (.lst ([.ref t1, .ref t2, .ref t3] ++ [.ref t4]))) t = some (.tup xs) := fun t xs e => by
      rw [upd_ne (ne_of e e4 (by intro y; cases y)), upd_ne (ne_of_none e h4)]
      exact e
    have R6 : Ls (FitAt (upd (upd H4 t4 (.tup [.str (Str.ofString "bare"), .bl b4])) l (.lst ([.ref t1, .ref t2, .ref t3] ++ [.ref t4])))) [t1, t2, t3, t4] [(Str.ofString "base", b1), (Str.ofString "number", b2), (Str.ofString "late", b3), (Str.ofString "bare", b4)] :=
      ⟨kt _ _ (s4 _ _ (s3 _ _ (s2 _ _ e1))), kt _ _ (s4 _ _ (s3 _ _ e2)), kt _ _ (s4 _ _ e3), by show upd _ l _ t4 = _; rw [upd_ne nlt.symm, upd_same], trivial⟩
    generalize (upd (upd H4 t4 (.tup [.str (Str.ofString "bare"), .bl b4])) l (.lst ([.ref t1, .ref t2, .ref t3] ++ [.ref t4]))) = H6 at s6 e6 R6 ⊢
    have W4 : fits [(Str.ofString "base", b1), (Str.ofString "number", b2), (Str.ofString "late", b3), (Str.ofString "bare", b4)] 4 = wordOf b1 b2 b3 b4 := by
      cases b1 <;> cases b2 <;> cases b3 <;> cases b4 <;> rfl
    generalize [(Str.ofString "base", b1), (Str.ofString "number", b2), (Str.ofString "late", b3), (Str.ofString "bare", b4)] = W at R6 W4
    refine ⟨_, rfl, l, rfl, ⟨_, SqL.of e6⟩, fun c hc => ?_⟩
    have nlc : l ≠ c := ne_of_none e6 hc
    refine lc_list (K := K) (a := l) (xs := [t1, t2, t3, t4].map V.ref) (fun i H' => H' = upd H6 c (.lst ((fits W i).map V.str))) rfl (fun i H' _ e => by rw [e]; exact SqL.of (by rw [upd_ne nlc]; exact e6)) ?_ ?_
    · rintro i y H' hy rfl
      obtain ⟨u, eu, rfl⟩ := get_refs hy
      obtain ⟨⟨w, b⟩, eg, ag⟩ := R6.get eu
      have hi : i < 4 := (List.getElem?_eq_some_iff.mp eu).1
      have ag' : (upd H6 c (.lst ((fits W i).map V.str))) u = some (.tup [.str w, .bl b]) := by
        rw [upd_ne (ne_of_none ag hc)]
        exact ag
      have nxt : fits W (i + 1) = fits W i ++ if b = true then [w] else [] := by
        unfold fits
        rw [List.take_add_one, eg, List.filter_append, List.map_append]
        cases b <;> rfl
      have lf : ((fits W i).map V.str).length < sizeLine := by
        rw [List.length_map]
        unfold fits
        rw [List.length_map]
        refine Nat.lt_of_le_of_lt (List.length_filter_le _ _) ?_
        rw [List.length_take]
        exact Nat.lt_of_le_of_lt (Nat.min_le_left _ _) (Nat.lt_of_lt_of_le (show i < 4 from hi) (by decide))
      refine ⟨u, [.str w, .bl b], rfl, SqT.of ag', rfl, _, _, rfl, _, _, rfl, rfl, rfl, ?_⟩
      refine ⟨_, rfl, b, rfl, ?_⟩
      cases b with
      | true =>
        refine iteT ⟨_, rfl, D, ec, ed, EC, _, _, true, rfl, fun u r => r, k5, true, rfl, iteT ⟨_, rfl, _, upd_same, lf, ?_⟩⟩
        rw [nxt, upd_upd, if_pos rfl, List.map_append]
        rfl
      | false =>
        refine iteF (iteF ?_)
        rw [nxt, if_neg (by decide), List.append_nil]
    · rintro H' rfl
      have e7 : (upd H6 c (.lst ((fits W 4).map V.str))) c = some (.lst ((wordOf b1 b2 b3 b4).map V.str)) := by rw [upd_same, W4]
      have s7 : Same H (upd H6 c (.lst ((fits W 4).map V.str))) := s6.trans (same_upd1 hc)
      show gName 2 (.ref c) _ (upd H6 c (.lst ((fits W 4).map V.str))) _
      generalize upd H6 c (.lst ((fits W 4).map V.str)) = H7 at s7 e7 ⊢
      refine ⟨_, rfl, Nat.zero_le _, fun e he => ?_⟩
      have s8 : Same H7 (upd H7 e (.lst [])) := same_upd1 he
      have dp : ∀ {H : Hp} (ws : List Str), DpAll K H (ws.map V.str) (ws.map PyData.str) := fun {H} ws => by
        induction ws with
        | nil => exact .nil
        | cons x r ih => exact .cons (.str _) ih
      have sh : SeqAt.shaped (.list ((wordOf b1 b2 b3 b4).map PyData.str)) = true := by
        cases b1 <;> cases b2 <;> cases b3 <;> cases b4 <;> decide +kernel
      have ev : PyData.eqv (.list ((wordOf b1 b2 b3 b4).map PyData.str)) (.list []) = false := by
        cases z : wordOf b1 b2 b3 b4 with
        | nil => exact absurd z ne
        | cons x r => simp [PyData.eqv, PyData.eqvAll]
      refine ⟨.list ((wordOf b1 b2 b3 b4).map PyData.str), .list [], .lst (SqL.of (s8 _ _ e7)) (dp _), .lst (SqL.of upd_same) .nil, sh, by decide +kernel, _, rfl, ?_⟩
      rw [ev]
      exact iteF ⟨_, rfl, q c _ (s7.trans s8) (s6.free hc) (s8 _ _ e7)⟩
theorem sc_l_refused_by_any : FnScope ["_law_line", "_law_base", "_law_e"] ["_law_line", "_law_base"] (defScope s_l_refused_by_any) := ⟨rfl, rfl, rfl, by decide +kernel, rfl, by decide +kernel, by decide +kernel⟩
def sp_l_refused_by_any : Sp := fun vs H Q _ => ∃ (l : List Nat) (b : Int), vs = [.str (mkS l), .int b] ∧ l.length ≤ 1000 ∧ 2 ≤ b ∧ b ≤ 16 ∧ readV b l = none ∧ ∀ H', Q (.bl true) H'
theorem ok_l_refused_by_any {P : Program} {w : World} {K : PySem.W.Frag} {mg : Str → Option Value} {base : Heap} {a : Ad} (T : Txt K mg a) : FnOk P w K mg base CX0 3 a.f_l_refused_by_any a.d_l_refused_by_any ["_law_line", "_law_base"] (sp_l_refused_by_any) := by
  have G_read := @ok_read P w K mg base a T
  have G_l_words := @ok_l_words P w K mg base a T
  refine T.F_l_refused_by_any.ok sc_l_refused_by_any (fun vs H Q E h => ?_) (fun cdv A outer s H vs Q E hr h => ?_)
  · obtain ⟨_, _, rfl, _⟩ := h
    rfl
  · obtain ⟨l, b, rfl, hl, c1, c2, er, q⟩ := h
    refine ⟨_, (pss_cons (L2N.ps_try_as (i := 2) rfl rfl sc_l_refused_by_any.nd rfl rfl ⟨rfl, by decide, Or.inl T.g_FallError⟩ takes0 (fun W0 pn0 xe0 tk0 _ => (pss_one (ps_expr (pe_callS G_read (hr.mono (by decide)) rfl T.m_read T.F_read.kp T.b_read (fun σ => L2N.passAt tk0 σ) (pa_cons (pv 0) (pa_cons (pv 1) pa_nil)))))) (fun a0 oe0 cls0 d0 pn0 hz0 hf0 => (pss_one (ps_ret (pe_cmpR (op_eqK (K := K) rfl hr.units) (pe_callA (a := a0) (oe := oe0) G_l_words (roomH_mark (hr.mono (by decide))) (hot_of hz0 hf0) List.mem_cons_self hz0.zc rfl T.m_l_words T.F_l_words.kp T.b_l_words (fun σ => pass0At σ) (pa_cons (pv 2) pa_nil)) (pe_lst (pa_cons pe_str pa_nil)) (nomark _))))))
      (pss_one (ps_ret pe_bl))), ?_⟩
    refine ⟨_, rfl, _, rfl, l, b, rfl, hl, fun z => by omega, fun _ _ _ => ?_, fun _ _ v z => by rw [er] at z; cases z⟩
    refine ⟨true, exf_NoNumber T, fun _ e0 he0 => ?_, fun y => by cases y⟩
    refine ⟨_, rfl, false, true, false, false, kind_NoNumber T, by decide +kernel, rfl, fun r H2 s2 fl el => ?_⟩
    refine ⟨(by show 1 ≤ sizeLine; decide), fun e he => ?_⟩
    have s3 : Same H2 (upd H2 e (.lst [.str (Str.ofString "number")])) := same_upd1 he
    have d : ∀ {H' : Hp} {p : Addr}, H' p = some (.lst [.str (Str.ofString "number")]) → Dp K H' (.ref p) (.list [.str (Str.ofString "number")]) := fun e => .lst (SqL.of e) (.cons (.str _) .nil)
    refine ⟨_, _, d (s3 _ _ el), d upd_same, by decide +kernel, by decide +kernel, ?_⟩
    rw [show PyData.eqv (.list [.str (Str.ofString "number")]) (.list [.str (Str.ofString "number")]) = true by decide +kernel]
    exact q _
theorem sc_law : FnScope ["_law_script", "_law_base", "_law_line", "_law_due", "_law_refused", "_law_found"] ["_law_script"] (defScope s_law) := ⟨rfl, rfl, rfl, by decide +kernel, rfl, by decide +kernel, by decide +kernel⟩
theorem ok_law {P : Program} {w : World} {K : PySem.W.Frag} {mg : Str → Option Value} {base : Heap} {a : Ad} (T : Txt K mg a) : FnOk P w K mg base CX0 4 a.f_law a.d_law ["_law_script"] (sp_law K) := by
  have G_l_line_by := @ok_l_line_by P w K mg base a T
  have G_l_due_of := @ok_l_due_of P w K mg base a T
  have G_read := @ok_read P w K mg base a T
  have G_l_whole := @ok_l_whole P w K mg base a T
  have G_l_cell_at := @ok_l_cell_at P w K mg base a T
  have G_l_refused_by_any := @ok_l_refused_by_any P w K mg base a T
  refine T.F_law.ok sc_law (fun vs H Q E h => ?_) (fun cdv A outer s H vs Q E hr h => ?_)
  · obtain ⟨_, _, rfl, _⟩ := h
    rfl
  · obtain ⟨x, ns, rfl, hS, hlen, q⟩ := h
    refine ⟨_, (pss_cons (ps_set (i := 1) sc_law.nd rfl (Or.inl rfl) (pe_op op_add pe_int (pe_op op_mod (pe_call G_l_cell_at (hr.mono (by decide)) rfl T.m_l_cell_at T.F_l_cell_at.kp T.b_l_cell_at .nil pass0 (pa_cons (pv 0) (pa_cons pe_int pa_nil))) pe_int)))
      (pss_cons (ps_set (i := 2) sc_law.nd rfl (Or.inl rfl) (pe_call G_l_line_by (hr.mono (by decide)) rfl T.m_l_line_by T.F_l_line_by.kp T.b_l_line_by .nil pass0 (pa_cons (pv 0) (pa_cons (pv 1) pa_nil))))
      (pss_cons (ps_set (i := 3) sc_law.nd rfl (Or.inl rfl) (pe_call G_l_due_of (hr.mono (by decide)) rfl T.m_l_due_of T.F_l_due_of.kp T.b_l_due_of .nil pass0 (pa_cons (pv 2) (pa_cons (pv 1) pa_nil))))
      (pss_cons (ps_set (i := 4) sc_law.nd rfl (Or.inl rfl) pe_bl)
      (pss_cons (ps_set (i := 5) sc_law.nd rfl (Or.inl rfl) pe_non)
      (C8.pss_cut (L2N.ps_try_many rfl rfl takes0 (fun W0 pn0 xe0 tk0 _ => (pss_one (ps_set (i := 5) sc_law.nd rfl (Or.inl rfl) (pe_callS G_read (hr.mono (by decide)) rfl T.m_read T.F_read.kp T.b_read (fun σ => L2N.passAt tk0 σ) (pa_cons (pv 2) (pa_cons (pv 1) pa_nil)))))) (.cons ⟨rfl, by decide, Or.inl T.g_NoNumber⟩ (fun a0 oe0 cls0 d0 pn0 hz0 hf0 => (pss_one (ps_set (i := 4) sc_law.nd rfl (Or.inl rfl) pe_bl))) .nil))
      (pss_cons (ps_if (pt_cmpR op_lt (pv 3) pe_int (nomark _)) (pss_one (ps_ret (pe_and (pv 4) (pe_one (pe_call G_l_refused_by_any (hr.mono (by decide)) rfl T.m_l_refused_by_any T.F_l_refused_by_any.kp T.b_l_refused_by_any .nil pass0 (pa_cons (pv 2) (pa_cons (pv 1) pa_nil))))))) pss_nil)
      (pss_one (ps_ret (pe_and (pe_not (pv 4)) (pe_and (pe_call G_l_whole (hr.mono (by decide)) rfl T.m_l_whole T.F_l_whole.kp T.b_l_whole .nil pass0 (pa_cons (pv 5) pa_nil)) (pe_one (pe_cmpR op_eq (pv 5) (pv 3) (nomark _)))))))))))))), ?_⟩
    obtain ⟨b0, eb, hb⟩ := modn (cellI ns 0) (m := 15) (by decide)
    obtain ⟨b, ebb, h2, h16⟩ : ∃ b : Nat, (2 : Int) + cellI ns 0 % 15 = b ∧ 2 ≤ b ∧ b ≤ 16 := ⟨2 + b0, by omega, by omega, by omega⟩
    refine ⟨_, rfl, x, ns, 0, rfl, hS, _, _, rfl, rfl, (by show (0 : Int) < 15; decide), _, _, rfl, rfl, ?_⟩
    dsimp only
    rw [ebb]
    refine ⟨_, rfl, _, rfl, x, ns, b, rfl, h2, h16, hS, fun l H1 s1 ll => ?_⟩
    cases er : readV (b : Int) l with
    | none =>
      refine ⟨_, rfl, _, rfl, l, b, rfl, ll, by omega, by omega, fun _ => ?_, fun v z => by rw [er] at z; cases z⟩
      refine ⟨fun σ' H' => σ' = [some (.ref x), some (.int b), some (.str (mkS l)), some (.int (-1)), some (.bl true), some .non], ?_, ?_⟩
      · refine ⟨_, rfl, _, rfl, l, b, rfl, ll, fun z => by omega, fun _ _ _ => ?_, fun _ _ v z => by rw [er] at z; cases z⟩
        exact ⟨true, exo_NoNumber T, fun _ e0 he0 => rfl, fun y => by cases y⟩
      · rintro σ' H2 rfl
        refine ⟨_, rfl, _, _, rfl, rfl, _, rfl, ?_⟩
        rw [decide_eq_true (show (-1 : Int) < 0 by decide)]
        refine iteT ⟨_, rfl, true, rfl, iteT ⟨_, rfl, _, rfl, l, b, rfl, ll, by omega, by omega, er, q⟩⟩
    | some v =>
      have nn := readV_nn (b := b) (by omega) er
      refine ⟨_, rfl, _, rfl, l, b, rfl, ll, by omega, by omega, fun z => (by rw [er] at z; cases z), fun v' z => ?_⟩
      rw [er] at z
      obtain rfl : v = v' := Option.some.inj z
      refine ⟨fun σ' H' => σ' = [some (.ref x), some (.int b), some (.str (mkS l)), some (.int v), some (.bl false), some (.int v)], ?_, ?_⟩
      · refine ⟨_, rfl, _, rfl, l, b, rfl, ll, fun z => by omega, fun _ _ z => (by rw [er] at z; cases z), fun _ _ v' z => ?_⟩
        rw [er] at z
        obtain rfl : v = v' := Option.some.inj z
        rfl
      · rintro σ' H2 rfl
        refine ⟨_, rfl, _, _, rfl, rfl, _, rfl, ?_⟩
        rw [decide_eq_false (show ¬ v < 0 by omega)]
        refine iteF ?_
        refine ⟨_, rfl, false, rfl, true, rfl, iteT ⟨_, rfl, v, rfl, true, rfl, iteT ⟨_, rfl, _, rfl, rfl, ?_⟩⟩⟩
        rw [decide_eq_true rfl]
        exact q _
theorem all_mk {l : PySem.W.OpenLaw} {w : World} {K : PySem.W.Frag} {h : Heap} {mg : Str → Option Value} {fa f_need_base f_read f_l_cell_at f_l_whole f_l_sign_by f_l_line_by f_l_due_of f_l_words f_l_refused_by_any f_law C_FallError C_NoBase C_NoNumber C_Late C_Bare : Addr} (X : K.In h) (G : h.Ns mainGlobals mg) (hfa : mg "law" = some (.ref fa))
    {od_need_base an_need_base od_read an_read od_l_cell_at an_l_cell_at od_l_whole an_l_whole od_l_sign_by an_l_sign_by od_l_line_by an_l_line_by od_l_due_of an_l_due_of od_l_words an_l_words od_l_refused_by_any an_l_refused_by_any od_law an_law : Option Addr} {sl_need_base sl_read sl_l_cell_at sl_l_whole sl_l_sign_by sl_l_line_by sl_l_due_of sl_l_words sl_l_refused_by_any sl_law : Array (Option Value)} {oc_need_base kV_need_base dc_need_base pm_need_base cd_need_base ct_need_base oc_read kV_read dc_read pm_read cd_read ct_read oc_l_cell_at kV_l_cell_at dc_l_cell_at pm_l_cell_at cd_l_cell_at ct_l_cell_at oc_l_whole kV_l_whole dc_l_whole pm_l_whole cd_l_whole ct_l_whole oc_l_sign_by kV_l_sign_by dc_l_sign_by pm_l_sign_by cd_l_sign_by ct_l_sign_by oc_l_line_by kV_l_line_by dc_l_line_by pm_l_line_by cd_l_line_by ct_l_line_by oc_l_due_of kV_l_due_of dc_l_due_of pm_l_due_of cd_l_due_of ct_l_due_of oc_l_words kV_l_words dc_l_words pm_l_words cd_l_words ct_l_words oc_l_refused_by_any kV_l_refused_by_any dc_l_refused_by_any pm_l_refused_by_any cd_l_refused_by_any ct_l_refused_by_any oc_law kV_law dc_law pm_law cd_law ct_law : Value} {ct_SIGNS : Tok}
    (ac_FallError : PySem.W.nsIn K mainGlobals "FallError" = some (some (.ref C_FallError)))
    (ac_NoBase : PySem.W.nsIn K mainGlobals "NoBase" = some (some (.ref C_NoBase)))
    (ac_NoNumber : PySem.W.nsIn K mainGlobals "NoNumber" = some (some (.ref C_NoNumber)))
    (ac_Late : PySem.W.nsIn K mainGlobals "Late" = some (some (.ref C_Late)))
    (ac_Bare : PySem.W.nsIn K mainGlobals "Bare" = some (some (.ref C_Bare)))
    (a_need_base : PySem.W.nsIn K mainGlobals "need_base" = some (some (.ref f_need_base)))
    (l_need_base : K.lookup f_need_base = some ⟨oc_need_base, od_need_base, .func (PySem.W.fnOf "need_base" "need_base" (defArgs s_need_base) (defBody s_need_base) (defScope s_need_base) .none kV_need_base dc_need_base pm_need_base an_need_base cd_need_base ct_need_base), sl_need_base⟩)
    (c_need_base : PySem.W.codeIn K cd_need_base "need_base" = true)
    (k_need_base : PySem.W.keepIn K (.ref f_need_base) = true)
    (a_read : PySem.W.nsIn K mainGlobals "read" = some (some (.ref f_read)))
    (l_read : K.lookup f_read = some ⟨oc_read, od_read, .func (PySem.W.fnOf "read" "read" (defArgs s_read) (defBody s_read) (defScope s_read) .none kV_read dc_read pm_read an_read cd_read ct_read), sl_read⟩)
    (c_read : PySem.W.codeIn K cd_read "read" = true)
    (k_read : PySem.W.keepIn K (.ref f_read) = true)
    (a_l_cell_at : PySem.W.nsIn K mainGlobals "_law_cell_at" = some (some (.ref f_l_cell_at)))
    (l_l_cell_at : K.lookup f_l_cell_at = some ⟨oc_l_cell_at, od_l_cell_at, .func (PySem.W.fnOf "_law_cell_at" "_law_cell_at" (defArgs s_l_cell_at) (defBody s_l_cell_at) (defScope s_l_cell_at) .none kV_l_cell_at dc_l_cell_at pm_l_cell_at an_l_cell_at cd_l_cell_at ct_l_cell_at), sl_l_cell_at⟩)
    (c_l_cell_at : PySem.W.codeIn K cd_l_cell_at "_law_cell_at" = true)
    (k_l_cell_at : PySem.W.keepIn K (.ref f_l_cell_at) = true)
    (a_l_whole : PySem.W.nsIn K mainGlobals "_law_whole" = some (some (.ref f_l_whole)))
    (l_l_whole : K.lookup f_l_whole = some ⟨oc_l_whole, od_l_whole, .func (PySem.W.fnOf "_law_whole" "_law_whole" (defArgs s_l_whole) (defBody s_l_whole) (defScope s_l_whole) .none kV_l_whole dc_l_whole pm_l_whole an_l_whole cd_l_whole ct_l_whole), sl_l_whole⟩)
    (c_l_whole : PySem.W.codeIn K cd_l_whole "_law_whole" = true)
    (k_l_whole : PySem.W.keepIn K (.ref f_l_whole) = true)
    (a_l_sign_by : PySem.W.nsIn K mainGlobals "_law_sign_by" = some (some (.ref f_l_sign_by)))
    (l_l_sign_by : K.lookup f_l_sign_by = some ⟨oc_l_sign_by, od_l_sign_by, .func (PySem.W.fnOf "_law_sign_by" "_law_sign_by" (defArgs s_l_sign_by) (defBody s_l_sign_by) (defScope s_l_sign_by) .none kV_l_sign_by dc_l_sign_by pm_l_sign_by an_l_sign_by cd_l_sign_by ct_l_sign_by), sl_l_sign_by⟩)
    (c_l_sign_by : PySem.W.codeIn K cd_l_sign_by "_law_sign_by" = true)
    (k_l_sign_by : PySem.W.keepIn K (.ref f_l_sign_by) = true)
    (a_l_line_by : PySem.W.nsIn K mainGlobals "_law_line_by" = some (some (.ref f_l_line_by)))
    (l_l_line_by : K.lookup f_l_line_by = some ⟨oc_l_line_by, od_l_line_by, .func (PySem.W.fnOf "_law_line_by" "_law_line_by" (defArgs s_l_line_by) (defBody s_l_line_by) (defScope s_l_line_by) .none kV_l_line_by dc_l_line_by pm_l_line_by an_l_line_by cd_l_line_by ct_l_line_by), sl_l_line_by⟩)
    (c_l_line_by : PySem.W.codeIn K cd_l_line_by "_law_line_by" = true)
    (k_l_line_by : PySem.W.keepIn K (.ref f_l_line_by) = true)
    (a_l_due_of : PySem.W.nsIn K mainGlobals "_law_due_of" = some (some (.ref f_l_due_of)))
    (l_l_due_of : K.lookup f_l_due_of = some ⟨oc_l_due_of, od_l_due_of, .func (PySem.W.fnOf "_law_due_of" "_law_due_of" (defArgs s_l_due_of) (defBody s_l_due_of) (defScope s_l_due_of) .none kV_l_due_of dc_l_due_of pm_l_due_of an_l_due_of cd_l_due_of ct_l_due_of), sl_l_due_of⟩)
    (c_l_due_of : PySem.W.codeIn K cd_l_due_of "_law_due_of" = true)
    (k_l_due_of : PySem.W.keepIn K (.ref f_l_due_of) = true)
    (a_l_words : PySem.W.nsIn K mainGlobals "_law_words" = some (some (.ref f_l_words)))
    (l_l_words : K.lookup f_l_words = some ⟨oc_l_words, od_l_words, .func (PySem.W.fnOf "_law_words" "_law_words" (defArgs s_l_words) (defBody s_l_words) (defScope s_l_words) .none kV_l_words dc_l_words pm_l_words an_l_words cd_l_words ct_l_words), sl_l_words⟩)
    (c_l_words : PySem.W.codeIn K cd_l_words "_law_words" = true)
    (k_l_words : PySem.W.keepIn K (.ref f_l_words) = true)
    (a_l_refused_by_any : PySem.W.nsIn K mainGlobals "_law_refused_by_any" = some (some (.ref f_l_refused_by_any)))
    (l_l_refused_by_any : K.lookup f_l_refused_by_any = some ⟨oc_l_refused_by_any, od_l_refused_by_any, .func (PySem.W.fnOf "_law_refused_by_any" "_law_refused_by_any" (defArgs s_l_refused_by_any) (defBody s_l_refused_by_any) (defScope s_l_refused_by_any) .none kV_l_refused_by_any dc_l_refused_by_any pm_l_refused_by_any an_l_refused_by_any cd_l_refused_by_any ct_l_refused_by_any), sl_l_refused_by_any⟩)
    (c_l_refused_by_any : PySem.W.codeIn K cd_l_refused_by_any "_law_refused_by_any" = true)
    (k_l_refused_by_any : PySem.W.keepIn K (.ref f_l_refused_by_any) = true)
    (a_law : PySem.W.nsIn K mainGlobals "law" = some (some (.ref f_law)))
    (l_law : K.lookup f_law = some ⟨oc_law, od_law, .func (PySem.W.fnOf "law" "law" (defArgs s_law) (defBody s_law) (defScope s_law) .none kV_law dc_law pm_law an_law cd_law ct_law), sl_law⟩)
    (c_law : PySem.W.codeIn K cd_law "law" = true)
    (k_law : PySem.W.keepIn K (.ref f_law) = true)
    (x_FallError : PySem.W.excIn K C_FallError [.type "ValueError", .type "Exception", .type "BaseException", .type "object"] "ValueError.__new__" = true)
    (k_FallError : PySem.W.keepIn K (.ref C_FallError) = true)
    (xb_FallError : PySem.W.subIn K (.ref C_FallError) (.type "BaseException") = some true)
    (xt_FallError : PySem.W.typeIn K (.ref C_FallError) = some (.type "type"))
    (x_NoBase : PySem.W.excIn K C_NoBase [.type "ValueError", .type "Exception", .type "BaseException", .type "object"] "ValueError.__new__" = true)
    (k_NoBase : PySem.W.keepIn K (.ref C_NoBase) = true)
    (xb_NoBase : PySem.W.subIn K (.ref C_NoBase) (.type "BaseException") = some true)
    (xt_NoBase : PySem.W.typeIn K (.ref C_NoBase) = some (.type "type"))
    (x_NoNumber : PySem.W.excIn K C_NoNumber [.type "ValueError", .type "Exception", .type "BaseException", .type "object"] "ValueError.__new__" = true)
    (k_NoNumber : PySem.W.keepIn K (.ref C_NoNumber) = true)
    (xb_NoNumber : PySem.W.subIn K (.ref C_NoNumber) (.type "BaseException") = some true)
    (xt_NoNumber : PySem.W.typeIn K (.ref C_NoNumber) = some (.type "type"))
    (x_Late : PySem.W.excIn K C_Late [.type "ValueError", .type "Exception", .type "BaseException", .type "object"] "ValueError.__new__" = true)
    (k_Late : PySem.W.keepIn K (.ref C_Late) = true)
    (xb_Late : PySem.W.subIn K (.ref C_Late) (.type "BaseException") = some true)
    (xt_Late : PySem.W.typeIn K (.ref C_Late) = some (.type "type"))
    (x_Bare : PySem.W.excIn K C_Bare [.type "ValueError", .type "Exception", .type "BaseException", .type "object"] "ValueError.__new__" = true)
    (k_Bare : PySem.W.keepIn K (.ref C_Bare) = true)
    (xb_Bare : PySem.W.subIn K (.ref C_Bare) (.type "BaseException") = some true)
    (xt_Bare : PySem.W.typeIn K (.ref C_Bare) = some (.type "type"))
    (q_NoBase_NoBase : PySem.W.subIn K (.ref C_NoBase) (.ref C_NoBase) = some true)
    (q_NoBase_NoNumber : PySem.W.subIn K (.ref C_NoBase) (.ref C_NoNumber) = some false)
    (q_NoBase_Late : PySem.W.subIn K (.ref C_NoBase) (.ref C_Late) = some false)
    (q_NoBase_Bare : PySem.W.subIn K (.ref C_NoBase) (.ref C_Bare) = some false)
    (q_NoBase_V : PySem.W.subIn K (.ref C_NoBase) (.type "ValueError") = some true)
    (e_NoBase : PySem.W.subIn K (.ref C_NoBase) (.ref C_FallError) = some true)
    (eg_NoBase : PySem.W.findIn K (.ref C_NoBase) "__getattribute__" = some (some (.builtin "BaseException.__getattribute__")))
    (ek_NoBase : PySem.W.findIn K (.ref C_NoBase) "__getattr__" = some none)
    (ed_NoBase : PySem.W.hasDictIn K C_NoBase = true)
    (ea_NoBase : PySem.W.findIn K (.ref C_NoBase) "__class__" = some (some (.builtin "object.__class__")))
    (em_NoBase : PySem.W.mroIn K C_NoBase (.type "object") = some true)
    (q_NoNumber_NoBase : PySem.W.subIn K (.ref C_NoNumber) (.ref C_NoBase) = some false)
    (q_NoNumber_NoNumber : PySem.W.subIn K (.ref C_NoNumber) (.ref C_NoNumber) = some true)
    (q_NoNumber_Late : PySem.W.subIn K (.ref C_NoNumber) (.ref C_Late) = some false)
    (q_NoNumber_Bare : PySem.W.subIn K (.ref C_NoNumber) (.ref C_Bare) = some false)
    (q_NoNumber_V : PySem.W.subIn K (.ref C_NoNumber) (.type "ValueError") = some true)
    (e_NoNumber : PySem.W.subIn K (.ref C_NoNumber) (.ref C_FallError) = some true)
    (eg_NoNumber : PySem.W.findIn K (.ref C_NoNumber) "__getattribute__" = some (some (.builtin "BaseException.__getattribute__")))
    (ek_NoNumber : PySem.W.findIn K (.ref C_NoNumber) "__getattr__" = some none)
    (ed_NoNumber : PySem.W.hasDictIn K C_NoNumber = true)
    (ea_NoNumber : PySem.W.findIn K (.ref C_NoNumber) "__class__" = some (some (.builtin "object.__class__")))
    (em_NoNumber : PySem.W.mroIn K C_NoNumber (.type "object") = some true)
    (q_Late_NoBase : PySem.W.subIn K (.ref C_Late) (.ref C_NoBase) = some false)
    (q_Late_NoNumber : PySem.W.subIn K (.ref C_Late) (.ref C_NoNumber) = some false)
    (q_Late_Late : PySem.W.subIn K (.ref C_Late) (.ref C_Late) = some true)
    (q_Late_Bare : PySem.W.subIn K (.ref C_Late) (.ref C_Bare) = some false)
    (q_Late_V : PySem.W.subIn K (.ref C_Late) (.type "ValueError") = some true)
    (e_Late : PySem.W.subIn K (.ref C_Late) (.ref C_FallError) = some true)
    (eg_Late : PySem.W.findIn K (.ref C_Late) "__getattribute__" = some (some (.builtin "BaseException.__getattribute__")))
    (ek_Late : PySem.W.findIn K (.ref C_Late) "__getattr__" = some none)
    (ed_Late : PySem.W.hasDictIn K C_Late = true)
    (ea_Late : PySem.W.findIn K (.ref C_Late) "__class__" = some (some (.builtin "object.__class__")))
    (em_Late : PySem.W.mroIn K C_Late (.type "object") = some true)
    (q_Bare_NoBase : PySem.W.subIn K (.ref C_Bare) (.ref C_NoBase) = some false)
    (q_Bare_NoNumber : PySem.W.subIn K (.ref C_Bare) (.ref C_NoNumber) = some false)
    (q_Bare_Late : PySem.W.subIn K (.ref C_Bare) (.ref C_Late) = some false)
    (q_Bare_Bare : PySem.W.subIn K (.ref C_Bare) (.ref C_Bare) = some true)
    (q_Bare_V : PySem.W.subIn K (.ref C_Bare) (.type "ValueError") = some true)
    (e_Bare : PySem.W.subIn K (.ref C_Bare) (.ref C_FallError) = some true)
    (eg_Bare : PySem.W.findIn K (.ref C_Bare) "__getattribute__" = some (some (.builtin "BaseException.__getattribute__")))
    (ek_Bare : PySem.W.findIn K (.ref C_Bare) "__getattr__" = some none)
    (ed_Bare : PySem.W.hasDictIn K C_Bare = true)
    (ea_Bare : PySem.W.findIn K (.ref C_Bare) "__class__" = some (some (.builtin "object.__class__")))
    (em_Bare : PySem.W.mroIn K C_Bare (.type "object") = some true)
    (ed_FallError : PySem.W.hasDictIn K C_FallError = true)
    (en_o : PySem.W.specialIn K (.builtin "object.__class__") "__get__" = some (some (.builtin "getset_descriptor.__get__")))
    (et_o : PySem.W.takesIn K (.builtin "object.__class__") = some true)
    (cc_SIGNS : PySem.W.nsIn K mainGlobals "SIGNS" = some (some (.str "0123456789abcdef" ct_SIGNS)))
    (nn_ValueError : PySem.W.nsIn K mainGlobals "ValueError" = some none)
    (nn_bool : PySem.W.nsIn K mainGlobals "bool" = some none)
    (nn_int : PySem.W.nsIn K mainGlobals "int" = some none)
    (nn_isinstance : PySem.W.nsIn K mainGlobals "isinstance" = some none)
    (nn_len : PySem.W.nsIn K mainGlobals "len" = some none)
    (nn_range : PySem.W.nsIn K mainGlobals "range" = some none) :
    ∃ fd : FuncData, (∀ (s : Shared) (v : Value), BindsTo s fd ⟨[v], []⟩ [("_law_script", v)]) ∧ ∀ base : Heap, K.In base → base.Ns mainGlobals mg → FnOk l.prog w K mg base CX0 4 fa fd ["_law_script"] (sp_law K) := by
  have e : f_law = fa := (Value.ref.inj (Option.some.inj (hfa.symm.trans (PySem.W.mg_of X G a_law)))).symm
  subst e
  have F_need_base := fun_mk (st := s_need_base) l_need_base c_need_base k_need_base
  have b_need_base := F_need_base.binds (ps := ["base"]) fun _ _ _ _ _ _ us hl => match us, hl with | [_], _ => rfl
  have F_read := fun_mk (st := s_read) l_read c_read k_read
  have b_read := F_read.binds (ps := ["line", "base"]) fun _ _ _ _ _ _ us hl => match us, hl with | [_, _], _ => rfl
  have F_l_cell_at := fun_mk (st := s_l_cell_at) l_l_cell_at c_l_cell_at k_l_cell_at
  have b_l_cell_at := F_l_cell_at.binds (ps := ["_law_script", "_law_k"]) fun _ _ _ _ _ _ us hl => match us, hl with | [_, _], _ => rfl
  have F_l_whole := fun_mk (st := s_l_whole) l_l_whole c_l_whole k_l_whole
  have b_l_whole := F_l_whole.binds (ps := ["_law_found"]) fun _ _ _ _ _ _ us hl => match us, hl with | [_], _ => rfl
  have F_l_sign_by := fun_mk (st := s_l_sign_by) l_l_sign_by c_l_sign_by k_l_sign_by
  have b_l_sign_by := F_l_sign_by.binds (ps := ["_law_cell"]) fun _ _ _ _ _ _ us hl => match us, hl with | [_], _ => rfl
  have F_l_line_by := fun_mk (st := s_l_line_by) l_l_line_by c_l_line_by k_l_line_by
  have b_l_line_by := F_l_line_by.binds (ps := ["_law_script", "_law_base"]) fun _ _ _ _ _ _ us hl => match us, hl with | [_, _], _ => rfl
  have F_l_due_of := fun_mk (st := s_l_due_of) l_l_due_of c_l_due_of k_l_due_of
  have b_l_due_of := F_l_due_of.binds (ps := ["_law_line", "_law_base"]) fun _ _ _ _ _ _ us hl => match us, hl with | [_, _], _ => rfl
  have F_l_words := fun_mk (st := s_l_words) l_l_words c_l_words k_l_words
  have b_l_words := F_l_words.binds (ps := ["_law_e"]) fun _ _ _ _ _ _ us hl => match us, hl with | [_], _ => rfl
  have F_l_refused_by_any := fun_mk (st := s_l_refused_by_any) l_l_refused_by_any c_l_refused_by_any k_l_refused_by_any
  have b_l_refused_by_any := F_l_refused_by_any.binds (ps := ["_law_line", "_law_base"]) fun _ _ _ _ _ _ us hl => match us, hl with | [_, _], _ => rfl
  have F_law := fun_mk (st := s_law) l_law c_law k_law
  have b_law := F_law.binds (ps := ["_law_script"]) fun _ _ _ _ _ _ us hl => match us, hl with | [_], _ => rfl
  have T : Txt K mg { f_need_base := f_need_base, d_need_base := PySem.W.fnOf "need_base" "need_base" (defArgs s_need_base) (defBody s_need_base) (defScope s_need_base) .none kV_need_base dc_need_base pm_need_base an_need_base cd_need_base ct_need_base, f_read := f_read, d_read := PySem.W.fnOf "read" "read" (defArgs s_read) (defBody s_read) (defScope s_read) .none kV_read dc_read pm_read an_read cd_read ct_read, f_l_cell_at := f_l_cell_at, d_l_cell_at := PySem.W.fnOf "_law_cell_at" "_law_cell_at" (defArgs s_l_cell_at) (defBody s_l_cell_at) (defScope s_l_cell_at) .none kV_l_cell_at dc_l_cell_at pm_l_cell_at an_l_cell_at cd_l_cell_at ct_l_cell_at, f_l_whole := f_l_whole, d_l_whole := PySem.W.fnOf "_law_whole" "_law_whole" (defArgs s_l_whole) (defBody s_l_whole) (defScope s_l_whole) .none kV_l_whole dc_l_whole pm_l_whole an_l_whole cd_l_whole ct_l_whole, f_l_sign_by := f_l_sign_by, d_l_sign_by := PySem.W.fnOf "_law_sign_by" "_law_sign_by" (defArgs s_l_sign_by) (defBody s_l_sign_by) (defScope s_l_sign_by) .none kV_l_sign_by dc_l_sign_by pm_l_sign_by an_l_sign_by cd_l_sign_by ct_l_sign_by, f_l_line_by := f_l_line_by, d_l_line_by := PySem.W.fnOf "_law_line_by" "_law_line_by" (defArgs s_l_line_by) (defBody s_l_line_by) (defScope s_l_line_by) .none kV_l_line_by dc_l_line_by pm_l_line_by an_l_line_by cd_l_line_by ct_l_line_by, f_l_due_of := f_l_due_of, d_l_due_of := PySem.W.fnOf "_law_due_of" "_law_due_of" (defArgs s_l_due_of) (defBody s_l_due_of) (defScope s_l_due_of) .none kV_l_due_of dc_l_due_of pm_l_due_of an_l_due_of cd_l_due_of ct_l_due_of, f_l_words := f_l_words, d_l_words := PySem.W.fnOf "_law_words" "_law_words" (defArgs s_l_words) (defBody s_l_words) (defScope s_l_words) .none kV_l_words dc_l_words pm_l_words an_l_words cd_l_words ct_l_words, f_l_refused_by_any := f_l_refused_by_any, d_l_refused_by_any := PySem.W.fnOf "_law_refused_by_any" "_law_refused_by_any" (defArgs s_l_refused_by_any) (defBody s_l_refused_by_any) (defScope s_l_refused_by_any) .none kV_l_refused_by_any dc_l_refused_by_any pm_l_refused_by_any an_l_refused_by_any cd_l_refused_by_any ct_l_refused_by_any, f_law := f_law, d_law := PySem.W.fnOf "law" "law" (defArgs s_law) (defBody s_law) (defScope s_law) .none kV_law dc_law pm_law an_law cd_law ct_law, C_FallError := C_FallError, C_NoBase := C_NoBase, C_NoNumber := C_NoNumber, C_Late := C_Late, C_Bare := C_Bare } := { F_need_base := F_need_base, b_need_base := b_need_base, m_need_base := PySem.W.mg_of X G a_need_base, F_read := F_read, b_read := b_read, m_read := PySem.W.mg_of X G a_read, F_l_cell_at := F_l_cell_at, b_l_cell_at := b_l_cell_at, m_l_cell_at := PySem.W.mg_of X G a_l_cell_at, F_l_whole := F_l_whole, b_l_whole := b_l_whole, m_l_whole := PySem.W.mg_of X G a_l_whole, F_l_sign_by := F_l_sign_by, b_l_sign_by := b_l_sign_by, m_l_sign_by := PySem.W.mg_of X G a_l_sign_by, F_l_line_by := F_l_line_by, b_l_line_by := b_l_line_by, m_l_line_by := PySem.W.mg_of X G a_l_line_by, F_l_due_of := F_l_due_of, b_l_due_of := b_l_due_of, m_l_due_of := PySem.W.mg_of X G a_l_due_of, F_l_words := F_l_words, b_l_words := b_l_words, m_l_words := PySem.W.mg_of X G a_l_words, F_l_refused_by_any := F_l_refused_by_any, b_l_refused_by_any := b_l_refused_by_any, m_l_refused_by_any := PySem.W.mg_of X G a_l_refused_by_any, F_law := F_law, b_law := b_law, m_law := PySem.W.mg_of X G a_law, g_FallError := PySem.W.mg_of X G ac_FallError, x_FallError := x_FallError, k_FallError := k_FallError, xb_FallError := xb_FallError, xt_FallError := xt_FallError, g_NoBase := PySem.W.mg_of X G ac_NoBase, x_NoBase := x_NoBase, k_NoBase := k_NoBase, xb_NoBase := xb_NoBase, xt_NoBase := xt_NoBase, g_NoNumber := PySem.W.mg_of X G ac_NoNumber, x_NoNumber := x_NoNumber, k_NoNumber := k_NoNumber, xb_NoNumber := xb_NoNumber, xt_NoNumber := xt_NoNumber, g_Late := PySem.W.mg_of X G ac_Late, x_Late := x_Late, k_Late := k_Late, xb_Late := xb_Late, xt_Late := xt_Late, g_Bare := PySem.W.mg_of X G ac_Bare, x_Bare := x_Bare, k_Bare := k_Bare, xb_Bare := xb_Bare, xt_Bare := xt_Bare, q_NoBase_NoBase := q_NoBase_NoBase, q_NoBase_NoNumber := q_NoBase_NoNumber, q_NoBase_Late := q_NoBase_Late, q_NoBase_Bare := q_NoBase_Bare, q_NoBase_V := q_NoBase_V, e_NoBase := e_NoBase, eg_NoBase := eg_NoBase, ek_NoBase := ek_NoBase, ed_NoBase := ed_NoBase, ea_NoBase := ea_NoBase, em_NoBase := em_NoBase, q_NoNumber_NoBase := q_NoNumber_NoBase, q_NoNumber_NoNumber := q_NoNumber_NoNumber, q_NoNumber_Late := q_NoNumber_Late, q_NoNumber_Bare := q_NoNumber_Bare, q_NoNumber_V := q_NoNumber_V, e_NoNumber := e_NoNumber, eg_NoNumber := eg_NoNumber, ek_NoNumber := ek_NoNumber, ed_NoNumber := ed_NoNumber, ea_NoNumber := ea_NoNumber, em_NoNumber := em_NoNumber, q_Late_NoBase := q_Late_NoBase, q_Late_NoNumber := q_Late_NoNumber, q_Late_Late := q_Late_Late, q_Late_Bare := q_Late_Bare, q_Late_V := q_Late_V, e_Late := e_Late, eg_Late := eg_Late, ek_Late := ek_Late, ed_Late := ed_Late, ea_Late := ea_Late, em_Late := em_Late, q_Bare_NoBase := q_Bare_NoBase, q_Bare_NoNumber := q_Bare_NoNumber, q_Bare_Late := q_Bare_Late, q_Bare_Bare := q_Bare_Bare, q_Bare_V := q_Bare_V, e_Bare := e_Bare, eg_Bare := eg_Bare, ek_Bare := ek_Bare, ed_Bare := ed_Bare, ea_Bare := ea_Bare, em_Bare := em_Bare, ed_FallError := ed_FallError, en_o := en_o, et_o := et_o, c_SIGNS := ⟨_, PySem.W.mg_of X G cc_SIGNS⟩, n_ValueError := PySem.W.mg_none_of X G nn_ValueError, n_bool := PySem.W.mg_none_of X G nn_bool, n_int := PySem.W.mg_none_of X G nn_int, n_isinstance := PySem.W.mg_none_of X G nn_isinstance, n_len := PySem.W.mg_none_of X G nn_len, n_range := PySem.W.mg_none_of X G nn_range }
  exact ⟨_, fun s v => .of_eq rfl, fun base _ _ => ok_law T⟩
end Fall
open PySem PySem.W PyProof.Rows
set_option maxRecDepth 100000 in
set_option maxHeartbeats 0 in
theorem PySem.Challenge.cw_bucketfall_k04_read_holds : PySem.Challenge.rw_bucketfall_k04_read.Holds := by
  w_on; o_law; k_head; (case hw => w_witness2)
  k_fill
  refine L2.walk_of (l := PySem.Challenge.rw_bucketfall_k04_read) (n := 63) (k := 4) (x := "_law_script") (CX := fun _ => L2.CX0) (sp := fun w => Fall.sp_law _) rfl (by decide) rfl ⟨rfl, by decide, by decide⟩ (fun w h Y => PySem.W.kIn_of Y) ?F (fun _ _ a ns hl _ hS => ⟨a, ns, rfl, hS, hl, fun _ => rfl⟩) (fun _ _ _ _ _ h => h)
  case F =>
    intro w mg fa h KX G hmg
    refine' Fall.all_mk KX G hmg ?ac_FallError ?ac_NoBase ?ac_NoNumber ?ac_Late ?ac_Bare ?a_need_base ?l_need_base ?c_need_base ?k_need_base ?a_read ?l_read ?c_read ?k_read ?a_l_cell_at ?l_l_cell_at ?c_l_cell_at ?k_l_cell_at ?a_l_whole ?l_l_whole ?c_l_whole ?k_l_whole ?a_l_sign_by ?l_l_sign_by ?c_l_sign_by ?k_l_sign_by ?a_l_line_by ?l_l_line_by ?c_l_line_by ?k_l_line_by ?a_l_due_of ?l_l_due_of ?c_l_due_of ?k_l_due_of ?a_l_words ?l_l_words ?c_l_words ?k_l_words ?a_l_refused_by_any ?l_l_refused_by_any ?c_l_refused_by_any ?k_l_refused_by_any ?a_law ?l_law ?c_law ?k_law ?x_FallError ?k_FallError ?xb_FallError ?xt_FallError ?x_NoBase ?k_NoBase ?xb_NoBase ?xt_NoBase ?x_NoNumber ?k_NoNumber ?xb_NoNumber ?xt_NoNumber ?x_Late ?k_Late ?xb_Late ?xt_Late ?x_Bare ?k_Bare ?xb_Bare ?xt_Bare ?q_NoBase_NoBase ?q_NoBase_NoNumber ?q_NoBase_Late ?q_NoBase_Bare ?q_NoBase_V ?e_NoBase ?eg_NoBase ?ek_NoBase ?ed_NoBase ?ea_NoBase ?em_NoBase ?q_NoNumber_NoBase ?q_NoNumber_NoNumber ?q_NoNumber_Late ?q_NoNumber_Bare ?q_NoNumber_V ?e_NoNumber ?eg_NoNumber ?ek_NoNumber ?ed_NoNumber ?ea_NoNumber ?em_NoNumber ?q_Late_NoBase ?q_Late_NoNumber ?q_Late_Late ?q_Late_Bare ?q_Late_V ?e_Late ?eg_Late ?ek_Late ?ed_Late ?ea_Late ?em_Late ?q_Bare_NoBase ?q_Bare_NoNumber ?q_Bare_Late ?q_Bare_Bare ?q_Bare_V ?e_Bare ?eg_Bare ?ek_Bare ?ed_Bare ?ea_Bare ?em_Bare ?ed_FallError ?en_o ?et_o ?cc_SIGNS ?nn_ValueError ?nn_bool ?nn_int ?nn_isinstance ?nn_len ?nn_range
    (case ac_FallError => k_is)
    (case ac_NoBase => k_is)
    (case ac_NoNumber => k_is)
    (case ac_Late => k_is)
    (case ac_Bare => k_is)
    (case a_need_base => k_is)
    (case l_need_base => k_is)
    (case c_need_base => k_is)
    (case k_need_base => k_is)
    (case a_read => k_is)
    (case l_read => k_is)
    (case c_read => k_is)
    (case k_read => k_is)
    (case a_l_cell_at => k_is)
    (case l_l_cell_at => k_is)
    (case c_l_cell_at => k_is)
    (case k_l_cell_at => k_is)
    (case a_l_whole => k_is)
    (case l_l_whole => k_is)
    (case c_l_whole => k_is)
    (case k_l_whole => k_is)
    (case a_l_sign_by => k_is)
    (case l_l_sign_by => k_is)
    (case c_l_sign_by => k_is)
    (case k_l_sign_by => k_is)
    (case a_l_line_by => k_is)
    (case l_l_line_by => k_is)
    (case c_l_line_by => k_is)
    (case k_l_line_by => k_is)
    (case a_l_due_of => k_is)
    (case l_l_due_of => k_is)
    (case c_l_due_of => k_is)
    (case k_l_due_of => k_is)
    (case a_l_words => k_is)
    (case l_l_words => k_is)
    (case c_l_words => k_is)
    (case k_l_words => k_is)
    (case a_l_refused_by_any => k_is)
    (case l_l_refused_by_any => k_is)
    (case c_l_refused_by_any => k_is)
    (case k_l_refused_by_any => k_is)
    (case a_law => k_is)
    (case l_law => k_is)
    (case c_law => k_is)
    (case k_law => k_is)
    (case x_FallError => k_exc)
    (case k_FallError => k_is)
    (case xb_FallError => k_is)
    (case xt_FallError => k_is)
    (case x_NoBase => k_exc)
    (case k_NoBase => k_is)
    (case xb_NoBase => k_is)
    (case xt_NoBase => k_is)
    (case x_NoNumber => k_exc)
    (case k_NoNumber => k_is)
    (case xb_NoNumber => k_is)
    (case xt_NoNumber => k_is)
    (case x_Late => k_exc)
    (case k_Late => k_is)
    (case xb_Late => k_is)
    (case xt_Late => k_is)
    (case x_Bare => k_exc)
    (case k_Bare => k_is)
    (case xb_Bare => k_is)
    (case xt_Bare => k_is)
    (case q_NoBase_NoBase => k_is)
    (case q_NoBase_NoNumber => k_is)
    (case q_NoBase_Late => k_is)
    (case q_NoBase_Bare => k_is)
    (case q_NoBase_V => k_is)
    (case e_NoBase => k_is)
    (case eg_NoBase => k_is)
    (case ek_NoBase => k_is)
    (case ed_NoBase => k_is)
    (case ea_NoBase => k_is)
    (case em_NoBase => k_is)
    (case q_NoNumber_NoBase => k_is)
    (case q_NoNumber_NoNumber => k_is)
    (case q_NoNumber_Late => k_is)
    (case q_NoNumber_Bare => k_is)
    (case q_NoNumber_V => k_is)
    (case e_NoNumber => k_is)
    (case eg_NoNumber => k_is)
    (case ek_NoNumber => k_is)
    (case ed_NoNumber => k_is)
    (case ea_NoNumber => k_is)
    (case em_NoNumber => k_is)
    (case q_Late_NoBase => k_is)
    (case q_Late_NoNumber => k_is)
    (case q_Late_Late => k_is)
    (case q_Late_Bare => k_is)
    (case q_Late_V => k_is)
    (case e_Late => k_is)
    (case eg_Late => k_is)
    (case ek_Late => k_is)
    (case ed_Late => k_is)
    (case ea_Late => k_is)
    (case em_Late => k_is)
    (case q_Bare_NoBase => k_is)
    (case q_Bare_NoNumber => k_is)
    (case q_Bare_Late => k_is)
    (case q_Bare_Bare => k_is)
    (case q_Bare_V => k_is)
    (case e_Bare => k_is)
    (case eg_Bare => k_is)
    (case ek_Bare => k_is)
    (case ed_Bare => k_is)
    (case ea_Bare => k_is)
    (case em_Bare => k_is)
    (case ed_FallError => k_is)
    (case en_o => k_is)
    (case et_o => k_is)
    (case cc_SIGNS => k_is)
    (case nn_ValueError => k_is)
    (case nn_bool => k_is)
    (case nn_int => k_is)
    (case nn_isinstance => k_is)
    (case nn_len => k_is)
    (case nn_range => k_is)
#print axioms PySem.Challenge.cw_bucketfall_k04_read_holds
