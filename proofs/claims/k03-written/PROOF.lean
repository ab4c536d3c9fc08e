import PyProof.Rows.All
import Wide.All
import OpenK.AllK
import Wide.FinOn
import HandS.ForExc
import HandS.Wide
import HandS.IsInst
import HandS.Codes
import HandS.Text
import HandS.Walk
import PySem.Challenge.RW_bucketfall_k03_written
set_option Elab.async false
set_option linter.all false
set_option maxRecDepth 100000
set_option maxHeartbeats 4000000
namespace Fall
/-! ### how often a number is divided until nothing is left -/
def flen (b n : Nat) : Nat := if h : 0 < n ∧ 2 ≤ b then flen b (n / b) + 1 else 0
termination_by n
decreasing_by exact Nat.div_lt_self h.1 h.2
theorem flen_zero (b : Nat) : flen b 0 = 0 := by
  rw [flen]
  simp
theorem flen_pos {b n : Nat} (h : 0 < n) (hb : 2 ≤ b) : flen b n = flen b (n / b) + 1 := by
  rw [flen, dif_pos ⟨h, hb⟩]
theorem cast_div (n b : Nat) : ((n : Int) / (b : Int)) = ((n / b : Nat) : Int) := by
  exact (Int.natCast_ediv n b).symm
theorem cast_mod (n b : Nat) : ((n : Int) % (b : Int)) = ((n % b : Nat) : Int) := by
  exact (Int.natCast_emod n b).symm
end Fall
namespace Fall
open PySem L2
def topS (i : Nat) : Stmt := PySem.Challenge.pw_bucketfall_k03_written.main.body.getD i (.Pass ⟨0, 0, 0, 0⟩)
abbrev s_need_base : Stmt := topS 6
abbrev s_need_number : Stmt := topS 7
abbrev s_shown : Stmt := topS 8
abbrev s_read : Stmt := topS 9
abbrev s_l_cell_at : Stmt := topS 11
abbrev s_l_whole : Stmt := topS 12
abbrev s_l_far_by : Stmt := topS 13
abbrev s_l_number_by : Stmt := topS 14
abbrev s_law : Stmt := topS 15
structure Ad where
  f_need_base : Addr
  d_need_base : FuncData
  f_need_number : Addr
  d_need_number : FuncData
  f_shown : Addr
  d_shown : FuncData
  f_read : Addr
  d_read : FuncData
  f_l_cell_at : Addr
  d_l_cell_at : FuncData
  f_l_whole : Addr
  d_l_whole : FuncData
  f_l_far_by : Addr
  d_l_far_by : FuncData
  f_l_number_by : Addr
  d_l_number_by : FuncData
  f_law : Addr
  d_law : FuncData
  C_FallError : Addr
  C_NoBase : Addr
  C_NoNumber : Addr
structure Txt (K : PySem.W.Frag) (mg : Str → Option Value) (a : Ad) : Prop where
  F_need_base : Fun K "need_base" "need_base" s_need_base a.f_need_base a.d_need_base
  m_need_base : mg "need_base" = some (.ref a.f_need_base)
  b_need_base : Binds K a.d_need_base ["base"] []
  F_need_number : Fun K "need_number" "need_number" s_need_number a.f_need_number a.d_need_number
  m_need_number : mg "need_number" = some (.ref a.f_need_number)
  b_need_number : Binds K a.d_need_number ["number"] []
  F_shown : Fun K "shown" "shown" s_shown a.f_shown a.d_shown
  m_shown : mg "shown" = some (.ref a.f_shown)
  b_shown : Binds K a.d_shown ["number", "base"] []
  F_read : Fun K "read" "read" s_read a.f_read a.d_read
  m_read : mg "read" = some (.ref a.f_read)
  b_read : Binds K a.d_read ["line", "base"] []
  F_l_cell_at : Fun K "_law_cell_at" "_law_cell_at" s_l_cell_at a.f_l_cell_at a.d_l_cell_at
  m_l_cell_at : mg "_law_cell_at" = some (.ref a.f_l_cell_at)
  b_l_cell_at : Binds K a.d_l_cell_at ["_law_script", "_law_k"] []
  F_l_whole : Fun K "_law_whole" "_law_whole" s_l_whole a.f_l_whole a.d_l_whole
  m_l_whole : mg "_law_whole" = some (.ref a.f_l_whole)
  b_l_whole : Binds K a.d_l_whole ["_law_found"] []
  F_l_far_by : Fun K "_law_far_by" "_law_far_by" s_l_far_by a.f_l_far_by a.d_l_far_by
  m_l_far_by : mg "_law_far_by" = some (.ref a.f_l_far_by)
  b_l_far_by : Binds K a.d_l_far_by ["_law_cell"] []
  F_l_number_by : Fun K "_law_number_by" "_law_number_by" s_l_number_by a.f_l_number_by a.d_l_number_by
  m_l_number_by : mg "_law_number_by" = some (.ref a.f_l_number_by)
  b_l_number_by : Binds K a.d_l_number_by ["_law_cell", "_law_way"] []
  F_law : Fun K "law" "law" s_law a.f_law a.d_law
  m_law : mg "law" = some (.ref a.f_law)
  b_law : Binds K a.d_law ["_law_script"] []
  g_FallError : mg "FallError" = some (.ref a.C_FallError)
  x_FallError : PySem.W.excIn K a.C_FallError [.type "ValueError", .type "Exception", .type "BaseException", .type "object"] "ValueError.__new__" = true
  k_FallError : PySem.W.keepIn K (.ref a.C_FallError) = true
  xb_FallError : PySem.W.subIn K (.ref a.C_FallError) (.type "BaseException") = some true
  xt_FallError : PySem.W.typeIn K (.ref a.C_FallError) = some (.type "type")
  g_NoBase : mg "NoBase" = some (.ref a.C_NoBase)
  x_NoBase : PySem.W.excIn K a.C_NoBase [.type "ValueError", .type "Exception", .type "BaseException", .type "object"] "ValueError.__new__" = true
  k_NoBase : PySem.W.keepIn K (.ref a.C_NoBase) = true
  xb_NoBase : PySem.W.subIn K (.ref a.C_NoBase) (.type "BaseException") = some true
  xt_NoBase : PySem.W.typeIn K (.ref a.C_NoBase) = some (.type "type")
  g_NoNumber : mg "NoNumber" = some (.ref a.C_NoNumber)
  x_NoNumber : PySem.W.excIn K a.C_NoNumber [.type "ValueError", .type "Exception", .type "BaseException", .type "object"] "ValueError.__new__" = true
  k_NoNumber : PySem.W.keepIn K (.ref a.C_NoNumber) = true
  xb_NoNumber : PySem.W.subIn K (.ref a.C_NoNumber) (.type "BaseException") = some true
  xt_NoNumber : PySem.W.typeIn K (.ref a.C_NoNumber) = some (.type "type")
  c_SIGNS : ∃ t, mg "SIGNS" = some (.str "0123456789abcdef" t)
  n_ValueError : mg "ValueError" = none
  n_bool : mg "bool" = none
  n_int : mg "int" = none
  n_isinstance : mg "isinstance" = none
  n_len : mg "len" = none
  n_str : mg "str" = none
/-! ### small words -/
theorem ifd {p : Prop} [Decidable p] {A B : Prop} (h1 : p → A) (h2 : ¬ p → B) : if decide p = true then A else B := by
  by_cases h : p
  · rw [if_pos (decide_eq_true h)]
    exact h1 h
  · rw [if_neg (by rw [decide_eq_false h]; decide)]
    exact h2 h
theorem ifn {p : Prop} [Decidable p] {A B : Prop} (h1 : ¬ p → A) (h2 : p → B) : if (!decide p) = true then A else B := by
  by_cases h : p
  · rw [decide_eq_true h]
    exact iteF (h2 h)
  · rw [decide_eq_false h]
    exact iteT (h1 h)
theorem dec_ii {i j : Int} : decide (V.int i = V.int j) = decide (i = j) := by
  by_cases h : i = j
  · subst h
    simp
  · rw [decide_eq_false h, decide_eq_false (fun q => h (V.int.inj q))]
theorem dec_ss {i j : Str} : decide (V.str i = V.str j) = decide (i = j) := by
  by_cases h : i = j
  · subst h
    simp
  · rw [decide_eq_false h, decide_eq_false (fun q => h (V.str.inj q))]
theorem ifi {i j : Int} {A B : Prop} (h1 : i = j → A) (h2 : ¬ i = j → B) : if decide (V.int i = V.int j) = true then A else B := by
  rw [dec_ii]
  exact ifd h1 h2
theorem ifs {i j : Str} {A B : Prop} (h1 : i = j → A) (h2 : ¬ i = j → B) : if decide (V.str i = V.str j) = true then A else B := by
  rw [dec_ss]
  exact ifd h1 h2
theorem ifni {i j : Int} {A B : Prop} (h1 : ¬ i = j → A) (h2 : i = j → B) : if (!decide (V.int i = V.int j)) = true then A else B := by
  rw [dec_ii]
  exact ifn h1 h2
theorem bt {p : Prop} [Decidable p] (h : p) : decide p = true := decide_eq_true h
theorem divW {i : Int} {j : Int} (h1 : 0 < j) (h2 : j < 1073741824) : CDivW i j := by
  have e : (2 : Nat) ^ 30 = 1073741824 := by decide
  refine wide_div (b := 30) h1 ?_ (by decide) (by decide)
  rw [e]
  omega
theorem mod_nat (c : Int) (m : Nat) (h : 0 < m) : ∃ r : Nat, c % (m : Int) = r ∧ r < m :=
  ⟨(c % (m : Int)).toNat, by
    have := Int.emod_nonneg c (show (m : Int) ≠ 0 by omega)
    omega, by
    have h1 := Int.emod_nonneg c (show (m : Int) ≠ 0 by omega)
    have h2 := Int.emod_lt_of_pos c (show (0 : Int) < (m : Int) by omega)
    omega⟩
theorem nat_of {i : Int} (h : 0 ≤ i) : ∃ n : Nat, i = n := Int.eq_ofNat_of_zero_le h
theorem modn (c : Int) {m : Int} (h : 0 < m) : ∃ n : Nat, c % m = n ∧ (n : Int) < m := by
  obtain ⟨n, e⟩ := nat_of (Int.emod_nonneg c (show m ≠ 0 by omega))
  exact ⟨n, e, by rw [← e]; exact Int.emod_lt_of_pos c h⟩
theorem cpow (j : Nat) (h : j ≤ 1000000 := by decide) : CPow 10 (j : Int) := ⟨by omega, by omega, by decide⟩
theorem same_upd1 {H : Hp} {l : Addr} {o : HO} (hl : H l = none) : Same H (upd H l o) := fun b u e => by
  rw [upd_ne (ne_of_none e hl)]
  exact e
theorem or_det {A B : TT} {σ : St} {H : Hp} {ka kb : Bool} (ha : ∀ Q : Bool → Hp → Prop, Q ka H → A σ H Q) (hb : ka = false → ∀ Q : Bool → Hp → Prop, Q kb H → B σ H Q) (Q : Bool → Hp → Prop) (q : Q (ka || kb) H) : tOr A B σ H Q := by
  refine ha _ ?_
  cases ka with
  | true => exact iteT q
  | false => exact iteF (hb rfl Q q)
theorem and_det {A B : TT} {σ : St} {H : Hp} {ka kb : Bool} (ha : ∀ Q : Bool → Hp → Prop, Q ka H → A σ H Q) (hb : ka = true → ∀ Q : Bool → Hp → Prop, Q kb H → B σ H Q) (Q : Bool → Hp → Prop) (q : Q (ka && kb) H) : tAnd A B σ H Q := by
  refine ha _ ?_
  cases ka with
  | true => exact iteT (hb rfl Q q)
  | false => exact iteF q
theorem small900 {n : Nat} {m : Int} (h : (n : Int) < m) (hm : m ≤ 2 ^ 900) : n < 2 ^ 900 := Int.ofNat_lt.mp (by rw [Int.natCast_pow]; exact Int.lt_of_lt_of_le h hm)
def sp_law (K : PySem.W.Frag) : Sp := fun vs H Q _ => ∃ (s : Addr) (ns : List Int), vs = [.ref s] ∧ SqL K H s (ns.map V.int) ∧ ns.length ≤ 63 ∧ ∀ H', Q (.bl true) H'
/-! ### texts as lists of codes -/
def mkS (l : List Nat) : Str := ⟨l.toArray⟩
theorem mkS_inj {l m : List Nat} (h : mkS l = mkS m) : l = m := by
  have e := congrArg (fun z : Str => z.cps.toList) h
  exact e
theorem mkS_app (l m : List Nat) : mkS l ++ mkS m = mkS (l ++ m) := TL.ext_tl (by rw [TL.tl_append]; rfl)
theorem mkS_len (l : List Nat) : (mkS l).length = l.length := rfl
theorem mkS_nil : (Str.ofString "" : Str) = mkS [] := by decide +kernel
theorem mkS_zero : (Str.ofString "0" : Str) = mkS [48] := by decide +kernel
theorem mkS_signs : (Str.ofString "0123456789abcdef" : Str) = mkS [48, 49, 50, 51, 52, 53, 54, 55, 56, 57, 97, 98, 99, 100, 101, 102] := by decide +kernel
/-- the figure of a sign, -1 of another one -/
def fig (c : Nat) : Int := Txt.find (Str.ofString "0123456789abcdef") (mkS [c])
def code (d : Nat) : Nat := if d < 10 then 48 + d else 87 + d
theorem fig_code : ∀ d, d < 16 → fig (code d) = (d : Int) := by
  intro d hd
  have h : ∀ d : _root_.Fin 16, fig (code d.val) = (d.val : Int) := by decide +kernel
  exact h ⟨d, hd⟩
theorem code_zero : ∀ d, d < 16 → code d = 48 → d = 0 := by
  intro d hd
  unfold code
  split <;> omega
theorem signs_at : ∀ d : Nat, d < 16 → ([48, 49, 50, 51, 52, 53, 54, 55, 56, 57, 97, 98, 99, 100, 101, 102] : List Nat)[d]? = some (code d) := by
  intro d hd
  have h : ∀ d : _root_.Fin 16, ([48, 49, 50, 51, 52, 53, 54, 55, 56, 57, 97, 98, 99, 100, 101, 102] : List Nat)[d.val]? = some (code d.val) := by decide +kernel
  exact h ⟨d, hd⟩
/-- reading on from m -/
def rd (b : Int) : Int → List Nat → Option Int
  | m, [] => some m
  | m, c :: r => if fig c < 0 ∨ b ≤ fig c then none else rd b (m * b + fig c) r
theorem rd_bad {b m : Int} {c : Nat} {r : List Nat} (h : fig c < 0 ∨ b ≤ fig c) : rd b m (c :: r) = none := by
  show (if fig c < 0 ∨ b ≤ fig c then none else rd b (m * b + fig c) r) = none
  rw [if_pos h]
theorem rd_ok {b m : Int} {c : Nat} {r : List Nat} (h : ¬ (fig c < 0 ∨ b ≤ fig c)) : rd b m (c :: r) = rd b (m * b + fig c) r := by
  show (if fig c < 0 ∨ b ≤ fig c then none else rd b (m * b + fig c) r) = _
  rw [if_neg h]
def readV (b : Int) (l : List Nat) : Option Int := if l = [] ∨ (l.head? = some 48 ∧ 1 < l.length) then none else rd b 0 l
theorem rd_nn {b : Int} (hb : 0 ≤ b) : ∀ (l : List Nat) (m v : Int), 0 ≤ m → rd b m l = some v → 0 ≤ v
  | [], m, v, hm, h => by
    have e : m = v := Option.some.inj h
    omega
  | c :: r, m, v, hm, h => by
    by_cases hc : fig c < 0 ∨ b ≤ fig c
    · rw [rd_bad hc] at h
      cases h
    · rw [rd_ok hc] at h
      have := Int.mul_nonneg hm hb
      exact rd_nn hb r _ v (by omega) h
theorem readV_nn {b : Int} (hb : 0 ≤ b) {l : List Nat} {v : Int} (h : readV b l = some v) : 0 ≤ v := by
  unfold readV at h
  split at h
  · cases h
  · exact rd_nn hb l 0 v (Int.le_refl 0) h
theorem drop_cons {α : Type} {l : List α} {i : Nat} {c : α} (h : l[i]? = some c) : l.drop i = c :: l.drop (i + 1) := by
  obtain ⟨hi, e⟩ := List.getElem?_eq_some_iff.mp h
  rw [List.drop_eq_getElem_cons hi, e]
/-- the bound of what is read so far -/
def rdB (i : Nat) (m : Int) : Prop := 0 ≤ m ∧ m < ((2 ^ (5 * i + 1) : Nat) : Int)
theorem rdB_next {i : Nat} {m b f : Int} (h : rdB i m) (hb0 : 0 ≤ b) (hb : b ≤ 16) (h0 : 0 ≤ f) (hf : f < b) : rdB (i + 1) (m * b + f) := by
  obtain ⟨h1, h2⟩ := h
  have a1 : 0 ≤ m * b := Int.mul_nonneg h1 hb0
  have a2 : m * b ≤ m * 16 := Int.mul_le_mul_of_nonneg_left hb h1
  have e : (2 : Nat) ^ (5 * (i + 1) + 1) = 2 ^ (5 * i + 1) * 32 := by
    rw [show 5 * (i + 1) + 1 = (5 * i + 1) + 5 by omega, Nat.pow_add]
  have p : 0 < 2 ^ (5 * i + 1) := Nat.two_pow_pos _
  refine ⟨by omega, ?_⟩
  rw [e, Int.natCast_mul]
  generalize ((2 ^ (5 * i + 1) : Nat) : Int) = z at *
  omega
theorem rdB_mul {i : Nat} {m b : Int} (h : rdB i m) (hb0 : 0 ≤ b) (hb : b ≤ 16) (hi : i ≤ 1000) : CMulW m b := by
  obtain ⟨h1, h2⟩ := h
  refine wide_mul (a := 5 * i + 1) (b := 5) ?_ ?_ (by omega) (by decide) (by omega)
  · omega
  · have e : (2 : Nat) ^ 5 = 32 := by decide
    omega
theorem dec_empty (l : List Nat) : decide (V.str (mkS l) = V.str (Str.ofString "")) = decide (l = []) := by
  rw [mkS_nil, dec_ss]
  by_cases z : l = []
  · subst z
    simp
  · rw [decide_eq_false z, decide_eq_false (fun y => z (mkS_inj y))]
theorem dec_zero1 (c : Nat) : decide (V.str (mkS [c]) = V.str (Str.ofString "0")) = decide (c = 48) := by
  rw [mkS_zero, dec_ss]
  by_cases z : c = 48
  · subst z
    simp
  · rw [decide_eq_false z, decide_eq_false (fun y => z (by have := mkS_inj y; simpa using this))]
theorem dec_len1 (l : List Nat) : decide ((1 : Int) < ((mkS l).length : Int)) = decide (1 < l.length) := by
  rw [mkS_len]
  exact decide_eq_decide.mpr (by omega)
theorem sc_need_base : FnScope ["base"] ["base"] (defScope s_need_base) := ⟨rfl, rfl, rfl, by decide +kernel, rfl, by decide +kernel, by decide +kernel⟩
def sp_need_base (a : Ad) : Sp := fun vs H Q E => ∃ b : Int, vs = [.int b] ∧ ((b < 2 ∨ 16 < b) → E (.ref a.C_NoBase) none H) ∧ (2 ≤ b → b ≤ 16 → Q .non H)
theorem ok_need_base {P : Program} {w : World} {K : PySem.W.Frag} {mg : Str → Option Value} {base : Heap} {a : Ad} (T : Txt K mg a) : FnOk P w K mg base (L2.CX P w) 1 a.f_need_base a.d_need_base ["base"] (sp_need_base a) := by
  skip
  refine T.F_need_base.okX sc_need_base (fun vs H Q E h => ?_) (fun cdv A outer s H vs Q E hr h => ?_)
  · obtain ⟨b, rfl, _⟩ := h
    rfl
  · obtain ⟨b, rfl, h1, h2⟩ := h
    refine ⟨_, (pss_one (ps_if (PW.pt (pw_or (pt_cmpR op_lt (pv 0) pe_int (nomark _)) (pw_or1 (pt_cmpR op_gt (pv 0) pe_int (nomark _))))) (pss_one (ps_raise rfl (takes_of rfl rfl rfl rfl) (pmk_own PySem.F.excBase_ValueError T.x_NoBase T.g_NoBase T.k_NoBase (raises_own T.xb_NoBase T.xt_NoBase) rfl))) pss_nil)), ?_⟩
    refine ⟨_, rfl, _, _, rfl, rfl, _, rfl, ifd (fun c => iteT (h1 (Or.inl c))) (fun c => ⟨_, rfl, _, _, rfl, rfl, _, rfl, ifd (fun d => h1 (Or.inr d)) (fun d => h2 (by omega) (by omega))⟩)⟩
theorem sc_need_number : FnScope ["number"] ["number"] (defScope s_need_number) := ⟨rfl, rfl, rfl, by decide +kernel, rfl, by decide +kernel, by decide +kernel⟩
def sp_need_number (a : Ad) : Sp := fun vs H Q E => ∃ n : Int, vs = [.int n] ∧ (n < 0 → E (.ref a.C_NoNumber) none H) ∧ (0 ≤ n → Q .non H)
theorem ok_need_number {P : Program} {w : World} {K : PySem.W.Frag} {mg : Str → Option Value} {base : Heap} {a : Ad} (T : Txt K mg a) : FnOk P w K mg base (L2.CX P w) 1 a.f_need_number a.d_need_number ["number"] (sp_need_number a) := by
  skip
  refine T.F_need_number.okX sc_need_number (fun vs H Q E h => ?_) (fun cdv A outer s H vs Q E hr h => ?_)
  · obtain ⟨b, rfl, _⟩ := h
    rfl
  · obtain ⟨b, rfl, h1, h2⟩ := h
    refine ⟨_, (pss_one (ps_if (pt_cmpR op_lt (pv 0) pe_int (nomark _)) (pss_one (ps_raise rfl (takes_of rfl rfl rfl rfl) (pmk_own PySem.F.excBase_ValueError T.x_NoNumber T.g_NoNumber T.k_NoNumber (raises_own T.xb_NoNumber T.xt_NoNumber) rfl))) pss_nil)), ?_⟩
    exact ⟨_, rfl, _, _, rfl, rfl, _, rfl, ifd (fun c => h1 c) (fun c => h2 (by omega))⟩
theorem sc_shown : FnScope ["number", "base", "line"] ["number", "base"] (defScope s_shown) := ⟨rfl, rfl, rfl, by decide +kernel, rfl, by decide +kernel, by decide +kernel⟩
/-- what is written: the text l of n in the base b -/
structure Wr (b n : Nat) (l : List Nat) : Prop where
  ne : l ≠ []
  hd : l.head? = some 48 → l.length = 1
  len : l.length ≤ 900
  val : rd b 0 l = some (n : Int)
def sp_shown (a : Ad) : Sp := fun vs H Q E => ∃ n b : Int, vs = [.int n, .int b] ∧ ((b < 2 ∨ 16 < b) → E (.ref a.C_NoBase) none H) ∧ (2 ≤ b → b ≤ 16 → n < 0 → E (.ref a.C_NoNumber) none H) ∧
  (∀ n' b' : Nat, n = n' → b = b' → 2 ≤ b' → b' ≤ 16 → n' < 2 ^ 900 ∧ ∀ l, Wr b' n' l → Q (.str (mkS l)) H)
theorem ok_shown {P : Program} {w : World} {K : PySem.W.Frag} {mg : Str → Option Value} {base : Heap} {a : Ad} (T : Txt K mg a) : FnOk P w K mg base (L2.CX P w) 2 a.f_shown a.d_shown ["number", "base"] (sp_shown a) := by
  have G_need_base := @ok_need_base P w K mg base a T
  have G_need_number := @ok_need_number P w K mg base a T
  refine T.F_shown.okX sc_shown (fun vs H Q E h => ?_) (fun cdv A outer s H vs Q E hr h => ?_)
  · obtain ⟨n, b, rfl, _⟩ := h
    rfl
  · obtain ⟨n, b, rfl, h1, h2, h3⟩ := h
    refine ⟨_, (pss_cons (ps_expr (pe_call G_need_base (hr.mono (by decide)) rfl T.m_need_base T.F_need_base.kp T.b_need_base .nil (passes_call (takes_of rfl rfl rfl rfl) (fun _ _ _ _ h => h)) (pa_cons (pv 1) pa_nil)))
      (pss_cons (ps_expr (pe_call G_need_number (hr.mono (by decide)) rfl T.m_need_number T.F_need_number.kp T.b_need_number .nil (passes_call (takes_of rfl rfl rfl rfl) (fun _ _ _ _ h => h)) (pa_cons (pv 0) pa_nil)))
      (pss_cons (ps_if (pt_cmpR op_eq (pv 0) pe_int (nomark _)) (pss_one (ps_ret pe_str)) pss_nil)
      (pss_cons (ps_set (i := 2) sc_shown.nd rfl (Or.inl rfl) pe_str)
      (pss_cons (ps_while (passes_of rfl) (pt_cmpR op_gt (pv 0) pe_int (nomark _)) (pss_cons (ps_set (i := 2) sc_shown.nd rfl (Or.inl rfl) (pe_op op_add_str (pe_ix ix_str (pe_glob (v := .str (Str.ofString "0123456789abcdef")) rfl T.c_SIGNS.choose_spec ⟨_, rfl⟩) (pe_op op_mod (pv 0) (pv 1)) (fun _ _ => rfl)) (pv 2)))
      (pss_one (ps_set (i := 0) sc_shown.nd rfl (Or.inl rfl) (pe_op op_fdivW (pv 0) (pv 1))))))
      (pss_one (ps_ret (pv 2)))))))), ?_⟩
    refine ⟨_, rfl, b, rfl, h1, fun c1 c2 => ⟨_, rfl, n, rfl, h2 c1 c2, fun c3 => ?_⟩⟩
    obtain ⟨n0, rfl⟩ := nat_of c3
    obtain ⟨b0, rfl⟩ := nat_of (show 0 ≤ b by omega)
    obtain ⟨hbig, k⟩ := h3 n0 b0 rfl rfl (by omega) (by omega)
    refine ⟨_, rfl, rfl, _, rfl, ifi (fun c => ?_) (fun c => ?_)⟩
    · have e : n0 = 0 := by omega
      subst e
      show Q (.str (Str.ofString "0")) H
      rw [mkS_zero]
      refine k [48] ⟨by simp, fun _ => rfl, by decide, ?_⟩
      have f0 : fig 48 = 0 := fig_code 0 (by decide)
      rw [rd_ok (by rw [f0]; omega), f0]
      show some ((0 : Int) * b0 + 0) = some ((0 : Nat) : Int)
      simp
    · have hn : 0 < n0 := by omega
      refine ⟨fun m σ H' => ∃ (l : List Nat) (j : Nat), H' = H ∧ σ = [some (.int m), some (.int b0), some (.str (mkS l))] ∧ m < 2 ^ j ∧ l.length + j = 900 ∧ rd b0 m l = some (n0 : Int) ∧ (m = 0 → l ≠ [] ∧ l.head? ≠ some 48), ⟨n0, [], 900, rfl, ?_, hbig, rfl, rfl, fun z => by omega⟩, ?_⟩
      · rw [← mkS_nil]
        rfl
      rintro m σ H' ⟨l, j, rfl, rfl, hm, hl, hv, hz⟩
      refine ⟨_, rfl, _, _, rfl, rfl, _, rfl, ifd (fun c => ?_) (fun c => ?_)⟩
      · have hmp : 0 < m := by omega
        have hb0 : 0 < b0 := by omega
        have hd16 : m % b0 < 16 := Nat.lt_of_lt_of_le (Nat.mod_lt _ hb0) (by omega)
        have hj : 0 < j := by
          rcases Nat.eq_zero_or_pos j with z | z
          · subst z
            omega
          · exact z
        refine ⟨fun σ' H'' => ∃ (l : List Nat) (j : Nat), H'' = H' ∧ σ' = [some (.int (m / b0 : Nat)), some (.int b0), some (.str (mkS l))] ∧ m / b0 < 2 ^ j ∧ l.length + j = 900 ∧ rd b0 ((m / b0 : Nat) : Int) l = some (n0 : Int) ∧ (m / b0 = 0 → l ≠ [] ∧ l.head? ≠ some 48), fun σ' H'' h => ⟨m / b0, Nat.div_lt_self hmp (by omega), h⟩, ?_⟩
        refine ⟨_, rfl, _, rfl, _, _, rfl, rfl, (by show (0 : Int) < b0; omega), mkS [48, 49, 50, 51, 52, 53, 54, 55, 56, 57, 97, 98, 99, 100, 101, 102], ((m : Int) % b0), code (m % b0), ?_, rfl, (by rw [mkS_len]; show 16 ≤ sizeLine; decide), ?_, _, rfl, mkS [code (m % b0)], mkS l, rfl, rfl, ?_, _, rfl, _, rfl, _, _, rfl, rfl, divW (by omega) (by omega), code (m % b0) :: l, j - 1, rfl, ?_, ?_, ?_, ?_, ?_⟩
        · exact congrArg V.str mkS_signs
        · rw [cast_mod]
          exact atI_nat (signs_at _ hd16)
        · rw [mkS_len, mkS_len]
          exact Nat.le_of_lt (small1000 (by simp; omega))
        · rw [← cast_div]
          have ec := mkS_app [code (m % b0)] l
          show [some (V.int ((m : Int) / b0)), some (.int b0), some (.str (mkS [code (m % b0)] ++ mkS l))] = _
          rw [ec]
          rfl
        · refine Nat.div_lt_of_lt_mul ?_
          have e2 : 2 ^ j = 2 * 2 ^ (j - 1) := by
            rw [← Nat.pow_succ']
            congr 1
            omega
          rw [e2] at hm
          exact Nat.lt_of_lt_of_le hm (Nat.mul_le_mul_right _ (by omega))
        · simp
          omega
        · have hf := fig_code _ hd16
          have hlt : m % b0 < b0 := Nat.mod_lt _ hb0
          rw [rd_ok (by rw [hf]; omega), hf]
          have e3 : ((m / b0 : Nat) : Int) * b0 + ((m % b0 : Nat) : Int) = (m : Int) := by
            rw [← Int.natCast_mul, ← Int.natCast_add]
            congr 1
            rw [Nat.mul_comm]
            exact Nat.div_add_mod m b0
          rw [e3]
          exact hv
        · intro z
          refine ⟨by simp, fun y => ?_⟩
          have y' : code (m % b0) = 48 := by simpa using y
          have z2 := code_zero _ hd16 y'
          have := Nat.div_add_mod m b0
          rw [z, z2] at this
          omega
      · have hm0 : m = 0 := by omega
        subst hm0
        obtain ⟨z1, z2⟩ := hz rfl
        exact ⟨_, rfl, k l ⟨z1, fun z => absurd z z2, by omega, hv⟩⟩
theorem sc_read : FnScope ["line", "base", "number", "sign", "figure"] ["line", "base"] (defScope s_read) := ⟨rfl, rfl, rfl, by decide +kernel, rfl, by decide +kernel, by decide +kernel⟩
def sp_read (a : Ad) : Sp := fun vs H Q E => ∃ (l : List Nat) (b : Int), vs = [.str (mkS l), .int b] ∧ l.length ≤ 1000 ∧ ((b < 2 ∨ 16 < b) → E (.ref a.C_NoBase) none H) ∧
  (2 ≤ b → b ≤ 16 → readV b l = none → E (.ref a.C_NoNumber) none H) ∧ (2 ≤ b → b ≤ 16 → ∀ v, readV b l = some v → Q (.int v) H)
theorem ok_read {P : Program} {w : World} {K : PySem.W.Frag} {mg : Str → Option Value} {base : Heap} {a : Ad} (T : Txt K mg a) : FnOk P w K mg base (L2.CX P w) 2 a.f_read a.d_read ["line", "base"] (sp_read a) := by
  have G_need_base := @ok_need_base P w K mg base a T
  refine T.F_read.okX sc_read (fun vs H Q E h => ?_) (fun cdv A outer s H vs Q E hr h => ?_)
  · obtain ⟨_, _, rfl, _⟩ := h
    rfl
  · obtain ⟨l, b, rfl, hl, h1, h2, h3⟩ := h
    refine ⟨_, (pss_cons (ps_expr (pe_call G_need_base (hr.mono (by decide)) rfl T.m_need_base T.F_need_base.kp T.b_need_base .nil (passes_call (takes_of rfl rfl rfl rfl) (fun _ _ _ _ h => h)) (pa_cons (pv 1) pa_nil)))
      (pss_cons (ps_if (PW.pt (pw_or (pt_cmpR op_eq (pv 0) pe_str (nomark _)) (pw_or1 (PW.pt (pw_and (pt_cmpR op_eq (pe_ix ix_str (pv 0) pe_int (fun _ _ => rfl)) pe_str (nomark _)) (pw_and1 (pt_cmpR op_gt (pe_callB call_len rfl T.n_len PySem.boot_len (pa_cons (pv 0) pa_nil)) pe_int (nomark _)))))))) (pss_one (ps_raise rfl (takes_of rfl rfl rfl rfl) (pmk_own PySem.F.excBase_ValueError T.x_NoNumber T.g_NoNumber T.k_NoNumber (raises_own T.xb_NoNumber T.xt_NoNumber) rfl))) pss_nil)
      (pss_cons (ps_set (i := 2) sc_read.nd rfl (Or.inl rfl) pe_int)
      (pss_cons (ps_for (passes_of rfl) rfl (pi_str (pv 0)) (pg_name (i := 3) sc_read.nd rfl (Or.inl rfl)) (pss_cons (ps_set (i := 4) sc_read.nd rfl (Or.inl rfl) (pe_m1 PySem.F.slot_str_find PySem.F.type_str_find mt_find (pe_glob (v := .str (Str.ofString "0123456789abcdef")) rfl T.c_SIGNS.choose_spec ⟨_, rfl⟩) (pv 3)))
      (pss_cons (ps_if (PW.pt (pw_or (pt_cmpR op_lt (pv 4) pe_int (nomark _)) (pw_or1 (pt_cmpR op_ge (pv 4) (pv 1) (nomark _))))) (pss_one (ps_raise rfl (takes_of rfl rfl rfl rfl) (pmk_own PySem.F.excBase_ValueError T.x_NoNumber T.g_NoNumber T.k_NoNumber (raises_own T.xb_NoNumber T.xt_NoNumber) rfl))) pss_nil)
      (pss_one (ps_set (i := 2) sc_read.nd rfl (Or.inl rfl) (pe_op op_add (pe_op op_mulW (pv 2) (pv 1)) (pv 4)))))))
      (pss_one (ps_ret (pv 2))))))), ?_⟩
    have line : l.length ≤ sizeLine := Nat.le_of_lt (small1000 hl)
    refine ⟨_, rfl, b, rfl, h1, fun c1 c2 => ?_⟩
    have g2 := h2 c1 c2
    have g3 := h3 c1 c2
    dsimp only [tSeq, tIfS]
    refine or_det (ka := decide (l = [])) (kb := decide (l.head? = some 48 ∧ 1 < l.length)) ?A ?B _ ?C
    case A =>
      intro Q q
      refine ⟨_, rfl, rfl, _, rfl, ?_⟩
      show Q (decide (V.str (mkS l) = V.str (Str.ofString ""))) H
      rw [mkS_nil, dec_ss]
      have e : decide (mkS l = mkS []) = decide (l = []) := by
        by_cases z : l = []
        · subst z
          simp
        · rw [decide_eq_false z, decide_eq_false (fun y => z (mkS_inj y))]
      rw [e]
      exact q
    case B =>
      intro ka Q q
      have hne : l ≠ [] := of_decide_eq_false ka
      obtain ⟨c, r, rfl⟩ : ∃ c r, l = c :: r := by
        cases l with
        | nil => exact absurd rfl hne
        | cons c r => exact ⟨c, r, rfl⟩
      refine and_det (ka := decide (c = 48)) (kb := decide (1 < (c :: r).length)) ?A2 ?B2 _ ?C2
      case A2 =>
        intro Q q
        refine ⟨_, rfl, mkS (c :: r), 0, c, rfl, rfl, line, atI_nat (j := 0) rfl, rfl, _, rfl, ?_⟩
        show Q (decide (V.str (mkS [c]) = V.str (Str.ofString "0"))) H
        rw [mkS_zero, dec_ss]
        have e : decide (mkS [c] = mkS [48]) = decide (c = 48) := by
          by_cases z : c = 48
          · subst z
            simp
          · rw [decide_eq_false z, decide_eq_false (fun y => z (by have := mkS_inj y; simpa using this))]
        rw [e]
        exact q
      case B2 =>
        intro _ Q q
        refine ⟨_, rfl, _, _, rfl, ⟨line, rfl⟩, _, _, rfl, rfl, _, rfl, ?_⟩
        have e : decide ((1 : Int) < ((mkS (c :: r)).length : Int)) = decide (1 < (c :: r).length) := by
          rw [mkS_len]
          exact decide_eq_decide.mpr (by omega)
        rw [e]
        exact q
      case C2 =>
        have e : (decide (c = 48) && decide (1 < (c :: r).length)) = decide ((c :: r).head? = some 48 ∧ 1 < (c :: r).length) := by
          rw [Bool.eq_iff_iff]
          simp
        rw [e]
        exact q
    case C =>
      by_cases hz : l = [] ∨ (l.head? = some 48 ∧ 1 < l.length)
      · rw [if_pos (by rw [Bool.or_eq_true, decide_eq_true_eq, decide_eq_true_eq]; exact hz)]
        exact g2 (by unfold readV; rw [if_pos hz])
      · rw [if_neg (by rw [Bool.or_eq_true, decide_eq_true_eq, decide_eq_true_eq]; exact hz)]
        have er : readV b l = rd b 0 l := by
          unfold readV
          rw [if_neg hz]
        rw [er] at g2 g3
        refine ⟨_, rfl, _, rfl, for_it walk_str (fun i σ H' => ∃ (m : Int) (v w : Option V), H' = H ∧ σ = [some (.str (mkS l)), some (.int b), some (.int m), v, w] ∧ rd b 0 l = rd b m (l.drop i) ∧ rdB i m) ⟨0, none, none, rfl, rfl, rfl, Int.le_refl 0, by decide⟩ (fun _ _ _ _ _ => trivial) ?_ ?_⟩
        · rintro i x σ H1 H2 hi ⟨m, v, w, rfl, rfl, em, hm⟩ ⟨rfl, c, hc, rfl⟩
          have hc' : l[i]? = some c := by
            have : l.toArray[i]? = some c := hc
            rw [List.getElem?_toArray] at this
            exact this
          have hil : i < l.length := (List.getElem?_eq_some_iff.mp hc').1
          rw [drop_cons hc'] at em
          refine ⟨⟨_, rfl⟩, _, rfl, _, _, rfl, rfl, ?_⟩
          dsimp only
          refine or_det (ka := decide (fig c < 0)) (kb := decide (b ≤ fig c)) (fun Q q => ⟨_, rfl, _, _, rfl, rfl, _, rfl, q⟩) (fun _ Q q => ⟨_, rfl, _, rfl, _, _, rfl, rfl, _, rfl, q⟩) _ ?_
          by_cases hb : fig c < 0 ∨ b ≤ fig c
          · rw [if_pos (by rw [Bool.or_eq_true, decide_eq_true_eq, decide_eq_true_eq]; exact hb)]
            exact g2 (by rw [em, rd_bad hb])
          · rw [if_neg (by rw [Bool.or_eq_true, decide_eq_true_eq, decide_eq_true_eq]; exact hb)]
            have hf0 : 0 ≤ fig c := by omega
            have hfb : fig c < b := by omega
            rw [rd_ok hb] at em
            exact ⟨_, rfl, _, rfl, _, _, rfl, rfl, rdB_mul hm (by omega) c2 (by omega), _, rfl, _, _, rfl, rfl, m * b + fig c, some (.str (mkS [c])), some (.int (fig c)), rfl, rfl, em, rdB_next hm (by omega) c2 hf0 hfb⟩
        · rintro σ H1 ⟨m, v, w, rfl, rfl, em, hm⟩
          have e0 : (mkS l).cps.size = l.length := rfl
          rw [e0, List.drop_length] at em
          exact ⟨_, rfl, g3 m em⟩
theorem sc_l_cell_at : FnScope ["_law_script", "_law_k"] ["_law_script", "_law_k"] (defScope s_l_cell_at) := ⟨rfl, rfl, rfl, by decide +kernel, rfl, by decide +kernel, by decide +kernel⟩
def cellI (ns : List Int) (k : Nat) : Int := ns.getD k 0
def sp_l_cell_at (K : PySem.W.Frag) : Sp := fun vs H Q _ => ∃ (s : Addr) (ns : List Int) (k : Nat), vs = [.ref s, .int k] ∧ SqL K H s (ns.map V.int) ∧ Q (.int (cellI ns k)) H
theorem ok_l_cell_at {P : Program} {w : World} {K : PySem.W.Frag} {mg : Str → Option Value} {base : Heap} {a : Ad} (T : Txt K mg a) : FnOk P w K mg base CX0 1 a.f_l_cell_at a.d_l_cell_at ["_law_script", "_law_k"] (sp_l_cell_at K) := by
  skip
  refine T.F_l_cell_at.ok sc_l_cell_at (fun vs H Q E h => ?_) (fun cdv A outer s H vs Q E hr h => ?_)
  · obtain ⟨_, _, _, rfl, _⟩ := h
    rfl
  · obtain ⟨s, ns, k, rfl, hS, q⟩ := h
    refine ⟨_, (pss_cons (ps_if (pt_cmpR op_lt (pv 1) (pe_callB call_len rfl T.n_len PySem.boot_len (pa_cons (pv 0) pa_nil)) (nomark _)) (pss_one (ps_ret (pe_ix ix_list (pv 0) (pv 1) (fun _ _ => rfl)))) pss_nil)
      (pss_one (ps_ret pe_int))), ?_⟩
    refine ⟨_, rfl, _, rfl, _, _, rfl, Or.inl ⟨_, hS, rfl⟩, _, _, rfl, rfl, _, rfl, ifd (fun c => ?_) (fun c => ?_)⟩
    · rw [List.length_map] at c
      have hk : k < ns.length := by omega
      refine ⟨_, rfl, _, rfl, s, _, _, _, rfl, rfl, hS, atI_nat (j := k) (v := V.int (cellI ns k)) ?_, q⟩
      rw [List.getElem?_map, List.getElem?_eq_getElem hk]
      show some (V.int ns[k]) = some (V.int (ns.getD k 0))
      rw [List.getD_eq_getElem?_getD, List.getElem?_eq_getElem hk]
      rfl
    · rw [List.length_map] at c
      have hk : ns.length ≤ k := by omega
      have e : cellI ns k = 0 := by
        show ns.getD k 0 = 0
        rw [List.getD_eq_getElem?_getD, List.getElem?_eq_none hk]
        rfl
      rw [e] at q
      exact q
theorem sc_l_whole : FnScope ["_law_found"] ["_law_found"] (defScope s_l_whole) := ⟨rfl, rfl, rfl, by decide +kernel, rfl, by decide +kernel, by decide +kernel⟩
def sp_l_whole : Sp := fun vs H Q _ => ∃ i : Int, vs = [.int i] ∧ Q (.bl true) H
theorem ok_l_whole {P : Program} {w : World} {K : PySem.W.Frag} {mg : Str → Option Value} {base : Heap} {a : Ad} (T : Txt K mg a) : FnOk P w K mg base CX0 1 a.f_l_whole a.d_l_whole ["_law_found"] (sp_l_whole) := by
  skip
  refine T.F_l_whole.ok sc_l_whole (fun vs H Q E h => ?_) (fun cdv A outer s H vs Q E hr h => ?_)
  · obtain ⟨_, rfl, _⟩ := h
    rfl
  · obtain ⟨i, rfl, q⟩ := h
    refine ⟨_, (pss_one (ps_ret (pe_and (pe_callB call_isi rfl T.n_isinstance (by decide +kernel) (pa_cons (pv 0) (pa_cons (pe_bltn (v := .ty "int") rfl T.n_int (by decide +kernel) rfl) pa_nil))) (pe_one (pe_not (pe_callB call_isi rfl T.n_isinstance (by decide +kernel) (pa_cons (pv 0) (pa_cons (pe_bltn (v := .ty "bool") rfl T.n_bool (by decide +kernel) rfl) pa_nil)))))))), ?_⟩
    exact ⟨_, rfl, _, _, _, _, true, rfl, .ty "int", .base (.int i), kit_ty (by decide +kernel), true, rfl, iteT ⟨_, rfl, _, _, _, _, false, rfl, .ty "bool", .base (.int i), kit_ty (by decide +kernel), false, rfl, q⟩⟩
theorem sc_l_far_by : FnScope ["_law_cell", "_law_more"] ["_law_cell"] (defScope s_l_far_by) := ⟨rfl, rfl, rfl, by decide +kernel, rfl, by decide +kernel, by decide +kernel⟩
def farI (c : Int) : Int := (1 + c % 10 ^ 60) * ([10 ^ 60, 10 ^ 120, 10 ^ 180, 10 ^ 189] : List Int).getD (c % 4).toNat 0 + c % 10 ^ 64
theorem far_nn (c : Int) : 0 ≤ farI c := by
  unfold farI
  have h1 : 0 ≤ c % 10 ^ 60 := Int.emod_nonneg _ (by decide)
  have h2 : 0 ≤ c % 10 ^ 64 := Int.emod_nonneg _ (by decide)
  have h3 : 0 ≤ ([10 ^ 60, 10 ^ 120, 10 ^ 180, 10 ^ 189] : List Int).getD (c % 4).toNat 0 := by
    have a1 : 0 ≤ c % 4 := Int.emod_nonneg _ (by decide)
    have a2 : c % 4 < 4 := Int.emod_lt_of_pos _ (by decide)
    have : (c % 4).toNat = 0 ∨ (c % 4).toNat = 1 ∨ (c % 4).toNat = 2 ∨ (c % 4).toNat = 3 := by omega
    rcases this with e | e | e | e <;> rw [e] <;> decide
  have h4 := Int.mul_nonneg (show 0 ≤ 1 + c % 10 ^ 60 by omega) h3
  omega
/-- some whole number from nought on -/
theorem far_lt (c : Int) : farI c < 2 ^ 900 := by
  unfold farI
  have h0 : 0 ≤ c % 10 ^ 60 := Int.emod_nonneg _ (by decide)
  have h1 : c % 10 ^ 60 < 10 ^ 60 := Int.emod_lt_of_pos _ (by decide)
  have h2 : c % 10 ^ 64 < 10 ^ 64 := Int.emod_lt_of_pos _ (by decide)
  have a1 : 0 ≤ c % 4 := Int.emod_nonneg _ (by decide)
  have a2 : c % 4 < 4 := Int.emod_lt_of_pos _ (by decide)
  have h3 : ([10 ^ 60, 10 ^ 120, 10 ^ 180, 10 ^ 189] : List Int).getD (c % 4).toNat 0 ≤ 10 ^ 189 := by
    have : (c % 4).toNat = 0 ∨ (c % 4).toNat = 1 ∨ (c % 4).toNat = 2 ∨ (c % 4).toNat = 3 := by omega
    rcases this with e | e | e | e <;> rw [e] <;> decide +kernel
  have h4 : (1 + c % 10 ^ 60) * ([10 ^ 60, 10 ^ 120, 10 ^ 180, 10 ^ 189] : List Int).getD (c % 4).toNat 0 ≤ 10 ^ 60 * 10 ^ 189 := by
    refine Int.le_trans (Int.mul_le_mul_of_nonneg_left h3 (by omega)) (Int.mul_le_mul_of_nonneg_right (by omega) (by decide))
  have h5 : (10 : Int) ^ 60 * 10 ^ 189 + 10 ^ 64 < 2 ^ 900 := by decide +kernel
  omega
def sp_l_far_by : Sp := fun vs H Q _ => ∃ c : Int, vs = [.int c] ∧ ∀ (n : Nat) (H' : Hp), n < 2 ^ 900 → Same H H' → Q (.int n) H'
theorem ten60 : ((10 : Int) ^ 60).natAbs < 2 ^ 200 := by decide +kernel
theorem ten120 : ((10 : Int) ^ 60 * 10 ^ 60).natAbs < 2 ^ 400 := by decide +kernel
theorem ten180 : ((10 : Int) ^ 60 * 10 ^ 60 * 10 ^ 60).natAbs < 2 ^ 600 := by decide +kernel
theorem ten9 : ((10 : Int) ^ 9).natAbs < 2 ^ 30 := by decide +kernel
theorem tenall (i : Nat) : (([10 ^ 60, 10 ^ 120, 10 ^ 180, 10 ^ 189] : List Int).getD i 0).natAbs < 2 ^ 630 := by
  match i with
  | 0 => decide +kernel
  | 1 => decide +kernel
  | 2 => decide +kernel
  | 3 => decide +kernel
  | _ + 4 => exact (show (0 : Int).natAbs < 2 ^ 630 by decide +kernel)
theorem one60 (c : Int) : (1 + c % 10 ^ 60).natAbs < 2 ^ 200 := by
  have h1 : 0 ≤ c % 10 ^ 60 := Int.emod_nonneg _ (by decide)
  have h2 : c % 10 ^ 60 < 10 ^ 60 := Int.emod_lt_of_pos _ (by decide)
  have h3 : (10 : Int) ^ 60 + 1 < 2 ^ 200 := by decide +kernel
  have h4 : ((2 ^ 200 : Nat) : Int) = 2 ^ 200 := by decide +kernel
  omega
theorem ok_l_far_by {P : Program} {w : World} {K : PySem.W.Frag} {mg : Str → Option Value} {base : Heap} {a : Ad} (T : Txt K mg a) : FnOk P w K mg base CX0 1 a.f_l_far_by a.d_l_far_by ["_law_cell"] (sp_l_far_by) := by
  skip
  refine T.F_l_far_by.ok sc_l_far_by (fun vs H Q E h => ?_) (fun cdv A outer s H vs Q E hr h => ?_)
  · obtain ⟨_, rfl, _⟩ := h
    rfl
  · obtain ⟨c, rfl, q⟩ := h
    refine ⟨_, (pss_cons (ps_set (i := 1) sc_l_far_by.nd rfl (Or.inl rfl) (pe_op op_mulW (pe_op op_mulW (pe_op op_pow pe_int pe_int) (pe_op op_pow pe_int pe_int)) (pe_op op_pow pe_int pe_int)))
      (pss_one (ps_ret (pe_op op_add (pe_op op_mulW (pe_op op_add pe_int (pe_op op_mod (pv 0) (pe_op op_pow pe_int pe_int))) (pe_ix ix_list (pe_lst (pa_cons (pe_op op_pow pe_int pe_int) (pa_cons (pe_op op_mulW (pe_op op_pow pe_int pe_int) (pe_op op_pow pe_int pe_int)) (pa_cons (pv 1) (pa_cons (pe_op op_mulW (pv 1) (pe_op op_pow pe_int pe_int)) pa_nil))))) (pe_op op_mod (pv 0) pe_int) (fun _ _ => rfl))) (pe_op op_mod (pv 0) (pe_op op_pow pe_int pe_int)))))), ?_⟩
    have cp : ∀ j : Nat, j ≤ 1000000 → CPow 10 (j : Int) := fun j hj => ⟨by omega, by omega, by decide⟩
    refine ⟨_, _, rfl, rfl, cp 60 (by decide), _, _, rfl, rfl, cp 60 (by decide), _, _, rfl, rfl, wide_mul (a := 200) (b := 200) ten60 ten60 (by decide) (by decide) (by decide), _, _, rfl, rfl, cp 60 (by decide), _, _, rfl, rfl, wide_mul (a := 400) (b := 200) ten120 ten60 (by decide) (by decide) (by decide), ?_⟩
    refine ⟨_, rfl, _, _, rfl, rfl, cp 60 (by decide), _, _, rfl, rfl, (show (0 : Int) < 10 ^ 60 by decide +kernel), _, _, rfl, rfl, ?_⟩
    refine ⟨_, _, rfl, rfl, cp 60 (by decide), _, _, rfl, rfl, cp 60 (by decide), _, _, rfl, rfl, cp 60 (by decide), _, _, rfl, rfl, wide_mul (a := 200) (b := 200) ten60 ten60 (by decide) (by decide) (by decide), _, rfl, _, rfl, _, _, rfl, rfl, cp 9 (by decide), _, _, rfl, rfl, wide_mul (a := 600) (b := 30) ten180 ten9 (by decide) (by decide) (by decide), (by show 4 ≤ sizeLine; decide), fun l hl => ?_⟩
    have e4 : ∃ j : Nat, c % 4 = j ∧ j < 4 := mod_nat c 4 (by decide)
    obtain ⟨j, ej, hj⟩ := e4
    have ea : atI ([V.int (10 ^ 60), V.int (10 ^ 60 * 10 ^ 60), V.int (10 ^ 60 * 10 ^ 60 * 10 ^ 60), V.int (10 ^ 60 * 10 ^ 60 * 10 ^ 60 * 10 ^ 9)]) (c % 4) = some (V.int (([10 ^ 60, 10 ^ 120, 10 ^ 180, 10 ^ 189] : List Int).getD j 0)) := by
      refine at_of (j := j) ej ?_
      match j, hj with
      | 0, _ => rfl
      | 1, _ => exact congrArg (fun z => some (V.int z)) (show (10 : Int) ^ 60 * 10 ^ 60 = 10 ^ 120 by decide +kernel)
      | 2, _ => exact congrArg (fun z => some (V.int z)) (show (10 : Int) ^ 60 * 10 ^ 60 * 10 ^ 60 = 10 ^ 180 by decide +kernel)
      | 3, _ => exact congrArg (fun z => some (V.int z)) (show (10 : Int) ^ 60 * 10 ^ 60 * 10 ^ 60 * 10 ^ 9 = 10 ^ 189 by decide +kernel)
    refine ⟨_, rfl, _, _, rfl, rfl, (show (0 : Int) < 4 by decide), l, _, _, _, rfl, rfl, SqL.of upd_same, ea, _, _, rfl, rfl, wide_mul (a := 200) (b := 630) (one60 c) (tenall j) (by decide) (by decide) (by decide), _, rfl, _, _, rfl, rfl, cp 64 (by decide), _, _, rfl, rfl, (show (0 : Int) < 10 ^ 64 by decide +kernel), _, _, rfl, rfl, ?_⟩
    have ef : farI c = (1 + c % 10 ^ 60) * ([10 ^ 60, 10 ^ 120, 10 ^ 180, 10 ^ 189] : List Int).getD j 0 + c % 10 ^ 64 := by
      unfold farI
      rw [ej]
      rfl
    obtain ⟨n, en⟩ := Int.eq_ofNat_of_zero_le (far_nn c)
    have q' := q n
    rw [← en, ef] at q'
    exact q' _ (by
      have h := far_lt c
      rw [en] at h
      exact Int.ofNat_lt.mp (by rw [Int.natCast_pow]; exact h)) (fun b o e => by rw [upd_ne (ne_of_none e hl)]; exact e)
theorem sc_l_number_by : FnScope ["_law_cell", "_law_way"] ["_law_cell", "_law_way"] (defScope s_l_number_by) := ⟨rfl, rfl, rfl, by decide +kernel, rfl, by decide +kernel, by decide +kernel⟩
def sp_l_number_by : Sp := fun vs H Q _ => ∃ c w : Int, vs = [.int c, .int w] ∧ ∀ (n : Nat) (H' : Hp), n < 2 ^ 900 → Same H H' → Q (.int n) H'
theorem ok_l_number_by {P : Program} {w : World} {K : PySem.W.Frag} {mg : Str → Option Value} {base : Heap} {a : Ad} (T : Txt K mg a) : FnOk P w K mg base CX0 2 a.f_l_number_by a.d_l_number_by ["_law_cell", "_law_way"] (sp_l_number_by) := by
  have G_l_far_by := @ok_l_far_by P w K mg base a T
  refine T.F_l_number_by.ok sc_l_number_by (fun vs H Q E h => ?_) (fun cdv A outer s H vs Q E hr h => ?_)
  · obtain ⟨_, _, rfl, _⟩ := h
    rfl
  · obtain ⟨c, w, rfl, q⟩ := h
    refine ⟨_, (pss_cons (ps_if (pt_cmpR op_eq (pe_op op_mod (pv 1) pe_int) pe_int (nomark _)) (pss_one (ps_ret (pe_op op_mod (pv 0) pe_int))) pss_nil)
      (pss_cons (ps_if (pt_cmpR op_eq (pe_op op_mod (pv 1) pe_int) pe_int (nomark _)) (pss_one (ps_ret (pe_op op_mod (pv 0) pe_int))) pss_nil)
      (pss_cons (ps_if (pt_cmpR op_eq (pe_op op_mod (pv 1) pe_int) pe_int (nomark _)) (pss_one (ps_ret (pe_op op_mod (pv 0) (pe_op op_pow pe_int pe_int)))) pss_nil)
      (pss_cons (ps_if (pt_cmpR op_eq (pe_op op_mod (pv 1) pe_int) pe_int (nomark _)) (pss_one (ps_ret (pe_op op_mod (pv 0) (pe_op op_pow pe_int pe_int)))) pss_nil)
      (pss_one (ps_ret (pe_call G_l_far_by (hr.mono (by decide)) rfl T.m_l_far_by T.F_l_far_by.kp T.b_l_far_by .nil pass0 (pa_cons (pv 0) pa_nil)))))))), ?_⟩
    have five : (0 : Int) < 5 := by decide
    refine ⟨_, rfl, _, _, rfl, rfl, five, rfl, _, rfl, ifi (fun _ => ?_) (fun _ => ?_)⟩
    · refine ⟨_, rfl, _, _, rfl, rfl, (by show (0 : Int) < _; decide), ?_⟩
      obtain ⟨n, e, lt⟩ := modn c (m := 20) (by decide)
      have q' := q n H (small900 lt (by decide +kernel)) (Same.refl H)
      rw [← e] at q'
      exact q'
    refine ⟨_, rfl, _, _, rfl, rfl, five, rfl, _, rfl, ifi (fun _ => ?_) (fun _ => ?_)⟩
    · refine ⟨_, rfl, _, _, rfl, rfl, (by show (0 : Int) < _; decide), ?_⟩
      obtain ⟨n, e, lt⟩ := modn c (m := 1000) (by decide)
      have q' := q n H (small900 lt (by decide +kernel)) (Same.refl H)
      rw [← e] at q'
      exact q'
    refine ⟨_, rfl, _, _, rfl, rfl, five, rfl, _, rfl, ifi (fun _ => ?_) (fun _ => ?_)⟩
    · refine ⟨_, rfl, _, _, rfl, rfl, cpow 12, _, _, rfl, rfl, (by show (0 : Int) < 10 ^ 12; decide +kernel), ?_⟩
      obtain ⟨n, e, lt⟩ := modn c (m := 10 ^ 12) (by decide +kernel)
      have q' := q n H (small900 lt (by decide +kernel)) (Same.refl H)
      rw [← e] at q'
      exact q'
    refine ⟨_, rfl, _, _, rfl, rfl, five, rfl, _, rfl, ifi (fun _ => ?_) (fun _ => ?_)⟩
    · refine ⟨_, rfl, _, _, rfl, rfl, cpow 60, _, _, rfl, rfl, (by show (0 : Int) < 10 ^ 60; decide +kernel), ?_⟩
      obtain ⟨n, e, lt⟩ := modn c (m := 10 ^ 60) (by decide +kernel)
      have q' := q n H (small900 lt (by decide +kernel)) (Same.refl H)
      rw [← e] at q'
      exact q'
    exact ⟨_, rfl, c, rfl, q⟩
theorem sc_law : FnScope ["_law_script", "_law_base", "_law_number", "_law_line", "_law_made", "_law_sign", "_law_figure", "_law_again"] ["_law_script"] (defScope s_law) := ⟨rfl, rfl, rfl, by decide +kernel, rfl, by decide +kernel, by decide +kernel⟩
theorem rd_step {b m : Int} {c : Nat} {r : List Nat} {v : Int} (h : rd b m (c :: r) = some v) : ¬ (fig c < 0 ∨ b ≤ fig c) ∧ rd b (m * b + fig c) r = some v := by
  by_cases hc : fig c < 0 ∨ b ≤ fig c
  · rw [rd_bad hc] at h
    cases h
  · rw [rd_ok hc] at h
    exact ⟨hc, h⟩
theorem ok_law {P : Program} {w : World} {K : PySem.W.Frag} {mg : Str → Option Value} {base : Heap} {a : Ad} (T : Txt K mg a) : FnOk P w K mg base CX0 3 a.f_law a.d_law ["_law_script"] (sp_law K) := by
  have G_l_number_by := @ok_l_number_by P w K mg base a T
  have G_shown := @ok_shown P w K mg base a T
  have G_read := @ok_read P w K mg base a T
  have G_l_cell_at := @ok_l_cell_at P w K mg base a T
  have G_l_whole := @ok_l_whole P w K mg base a T
  refine T.F_law.ok sc_law (fun vs H Q E h => ?_) (fun cdv A outer s H vs Q E hr h => ?_)
  · obtain ⟨_, _, rfl, _⟩ := h
    rfl
  · obtain ⟨x, ns, rfl, hS, hlen, q⟩ := h
    refine ⟨_, (pss_cons (ps_set (i := 1) sc_law.nd rfl (Or.inl rfl) (pe_op op_add pe_int (pe_op op_mod (pe_call G_l_cell_at (hr.mono (by decide)) rfl T.m_l_cell_at T.F_l_cell_at.kp T.b_l_cell_at .nil pass0 (pa_cons (pv 0) (pa_cons pe_int pa_nil))) pe_int)))
      (pss_cons (ps_set (i := 2) sc_law.nd rfl (Or.inl rfl) (pe_call G_l_number_by (hr.mono (by decide)) rfl T.m_l_number_by T.F_l_number_by.kp T.b_l_number_by .nil pass0 (pa_cons (pe_call G_l_cell_at (hr.mono (by decide)) rfl T.m_l_cell_at T.F_l_cell_at.kp T.b_l_cell_at .nil pass0 (pa_cons (pv 0) (pa_cons pe_int pa_nil))) (pa_cons (pe_call G_l_cell_at (hr.mono (by decide)) rfl T.m_l_cell_at T.F_l_cell_at.kp T.b_l_cell_at .nil pass0 (pa_cons (pv 0) (pa_cons pe_int pa_nil))) pa_nil))))
      (pss_cons (ps_set (i := 3) sc_law.nd rfl (Or.inl rfl) (pe_call G_shown (hr.mono (by decide)) rfl T.m_shown T.F_shown.kp T.b_shown .nil passL (pa_cons (pv 2) (pa_cons (pv 1) pa_nil))))
      (pss_cons (ps_if (PW.pt (pw_or (pt_not (pt_val (pe_callB call_isi rfl T.n_isinstance (by decide +kernel) (pa_cons (pv 3) (pa_cons (pe_bltn (v := .ty "str") rfl T.n_str (by decide +kernel) rfl) pa_nil))))) (pw_or1 (pt_cmpR op_eq (pv 3) pe_str (nomark _))))) (pss_one (ps_ret pe_bl)) pss_nil)
      (pss_cons (ps_if (PW.pt (pw_and (pt_cmpR op_eq (pe_ix ix_str (pv 3) pe_int (fun _ _ => rfl)) pe_str (nomark _)) (pw_and1 (pt_cmpR op_gt (pe_callB call_len rfl T.n_len PySem.boot_len (pa_cons (pv 3) pa_nil)) pe_int (nomark _))))) (pss_one (ps_ret pe_bl)) pss_nil)
      (pss_cons (ps_set (i := 4) sc_law.nd rfl (Or.inl rfl) pe_int)
      (pss_cons (ps_for PassesOwn.never rfl (pi_str (pv 3)) (pg_name (i := 5) sc_law.nd rfl (Or.inl rfl)) (pss_cons (ps_set (i := 6) sc_law.nd rfl (Or.inl rfl) (pe_m1 PySem.F.slot_str_find PySem.F.type_str_find mt_find pe_str (pv 5)))
      (pss_cons (ps_if (PW.pt (pw_or (pt_cmpR op_lt (pv 6) pe_int (nomark _)) (pw_or1 (pt_cmpR op_ge (pv 6) (pv 1) (nomark _))))) (pss_one (ps_ret pe_bl)) pss_nil)
      (pss_one (ps_set (i := 4) sc_law.nd rfl (Or.inl rfl) (pe_op op_add (pe_op op_mulW (pv 4) (pv 1)) (pv 6)))))))
      (pss_cons (ps_set (i := 7) sc_law.nd rfl (Or.inl rfl) (pe_call G_read (hr.mono (by decide)) rfl T.m_read T.F_read.kp T.b_read .nil passL (pa_cons (pv 3) (pa_cons (pv 1) pa_nil))))
      (pss_one (ps_ret (pe_and (pe_cmpR op_eq (pv 4) (pv 2) (nomark _)) (pe_and (pe_call G_l_whole (hr.mono (by decide)) rfl T.m_l_whole T.F_l_whole.kp T.b_l_whole .nil pass0 (pa_cons (pv 7) pa_nil)) (pe_one (pe_cmpR op_eq (pv 7) (pv 2) (nomark _))))))))))))))), ?_⟩
    obtain ⟨b0, eb, hb⟩ := modn (cellI ns 0) (m := 15) (by decide)
    obtain ⟨b, ebb, h2, h16⟩ : ∃ b : Nat, (2 : Int) + cellI ns 0 % 15 = b ∧ 2 ≤ b ∧ b ≤ 16 := ⟨2 + b0, by omega, by omega, by omega⟩
    refine ⟨_, rfl, x, ns, 0, rfl, hS, _, _, rfl, rfl, (by show (0 : Int) < 15; decide), _, _, rfl, rfl, ?_⟩
    refine ⟨_, rfl, x, ns, 1, rfl, hS, _, rfl, x, ns, 2, rfl, hS, _, _, rfl, fun n H1 hn s1 => ?_⟩
    dsimp only
    rw [ebb]
    refine ⟨_, rfl, _, rfl, n, b, rfl, fun z => by omega, fun _ _ z => by omega, fun n' b' e1 e2 _ _ => ?_⟩
    obtain rfl : n = n' := by omega
    obtain rfl : b = b' := by omega
    refine ⟨hn, fun l w => ?_⟩
    have line : l.length ≤ sizeLine := Nat.le_of_lt (small1000 (by have := w.len; omega))
    obtain ⟨c, r, rfl⟩ : ∃ c r, l = c :: r := by
      cases l with
      | nil => exact absurd rfl w.ne
      | cons c r => exact ⟨c, r, rfl⟩
    have hcr : ¬ (c = 48 ∧ 1 < (c :: r).length) := fun ⟨z1, z2⟩ => by
      have := w.hd (by rw [z1]; rfl)
      omega
    -- isinstance, the empty text
    dsimp only [tSeq, tIfS]
    refine or_det (ka := false) (kb := false) ?A ?B _ ?C
    case A =>
      intro Q q
      exact ⟨_, rfl, _, _, _, _, true, rfl, .ty "str", .base (.str _), kit_ty (by decide +kernel), true, rfl, q⟩
    case B =>
      intro _ Q q
      refine ⟨_, rfl, rfl, _, rfl, ?_⟩
      show Q (decide (V.str (mkS (c :: r)) = V.str (Str.ofString ""))) H1
      rw [dec_empty]
      exact q
    rw [if_neg (by decide)]
    dsimp only [tNext, tSeq, tIfS]
    refine and_det (ka := decide (c = 48)) (kb := decide (1 < (c :: r).length)) ?A2 ?B2 _ ?C2
    case A2 =>
      intro Q q
      refine ⟨_, rfl, mkS (c :: r), 0, c, rfl, rfl, line, atI_nat (j := 0) rfl, rfl, _, rfl, ?_⟩
      show Q (decide (V.str (mkS [c]) = V.str (Str.ofString "0"))) H1
      rw [dec_zero1]
      exact q
    case B2 =>
      intro _ Q q
      refine ⟨_, rfl, _, _, rfl, ⟨line, rfl⟩, _, _, rfl, rfl, _, rfl, ?_⟩
      rw [dec_len1]
      exact q
    rw [if_neg (by rw [Bool.and_eq_true, decide_eq_true_eq, decide_eq_true_eq]; exact hcr)]
    refine ⟨_, rfl, _, rfl, for_it walk_str (fun i σ H' => ∃ (m : Int) (v w : Option V), H' = H1 ∧ σ = [some (.ref x), some (.int b), some (.int n), some (.str (mkS (c :: r))), some (.int m), v, w, none] ∧ rd b m ((c :: r).drop i) = some (n : Int) ∧ rdB i m) ⟨0, none, none, rfl, rfl, w.val, Int.le_refl 0, by decide⟩ (fun _ _ _ _ _ => trivial) ?_ ?_⟩
    · rintro i y σ H2 H3 hi ⟨m, v, w', rfl, rfl, em, hm⟩ ⟨rfl, d, hd, rfl⟩
      have hd' : (c :: r)[i]? = some d := by
        have : (c :: r).toArray[i]? = some d := hd
        rw [List.getElem?_toArray] at this
        exact this
      have hil : i < (c :: r).length := (List.getElem?_eq_some_iff.mp hd').1
      have hl := w.len
      rw [drop_cons hd'] at em
      obtain ⟨hf, em'⟩ := rd_step em
      refine ⟨⟨_, rfl⟩, _, rfl, _, _, rfl, rfl, ?_⟩
      dsimp only [tSeq, tIfS]
      refine or_det (ka := decide (fig d < 0)) (kb := decide ((b : Int) ≤ fig d)) (fun Q q => ⟨_, rfl, _, _, rfl, rfl, _, rfl, q⟩) (fun _ Q q => ⟨_, rfl, _, rfl, _, _, rfl, rfl, _, rfl, q⟩) _ ?_
      rw [if_neg (by rw [Bool.or_eq_true, decide_eq_true_eq, decide_eq_true_eq]; exact hf)]
      exact ⟨_, rfl, _, rfl, _, _, rfl, rfl, rdB_mul hm (by omega) (by omega) (by omega), _, rfl, _, _, rfl, rfl, m * b + fig d, some (.str (mkS [d])), some (.int (fig d)), rfl, rfl, em', rdB_next hm (by omega) (by omega) (by omega) (by omega)⟩
    · rintro σ H2 ⟨m, v, w', rfl, rfl, em, hm⟩
      have e0 : (mkS (c :: r)).cps.size = (c :: r).length := rfl
      rw [e0, List.drop_length] at em
      have em' : m = (n : Int) := Option.some.inj em
      subst em'
      have er : readV b (c :: r) = some (n : Int) := by
        unfold readV
        rw [if_neg (fun z => z.elim (fun y => by cases y) (fun y => hcr ⟨by simpa using y.1, y.2⟩))]
        exact w.val
      refine ⟨_, rfl, _, rfl, _, _, rfl, by have := w.len; omega, fun z => by omega, fun _ _ z => (by rw [er] at z; cases z), fun _ _ y ey => ?_⟩
      have ey' : (n : Int) = y := Option.some.inj (er.symm.trans ey)
      subst ey'
      refine ⟨_, rfl, _, rfl, rfl, true, ?_, iteT ⟨_, rfl, _, rfl, true, rfl, iteT ⟨_, rfl, _, rfl, rfl, ?_⟩⟩⟩
      · show V.bl _ = V.bl true
        rw [dec_ii, decide_eq_true rfl]
      · rw [dec_ii, decide_eq_true rfl]
        exact q _
theorem all_mk {l : PySem.W.OpenLaw} {w : World} {K : PySem.W.Frag} {h : Heap} {mg : Str → Option Value} {fa f_need_base f_need_number f_shown f_read f_l_cell_at f_l_whole f_l_far_by f_l_number_by f_law C_FallError C_NoBase C_NoNumber : Addr} (X : K.In h) (G : h.Ns mainGlobals mg) (hfa : mg "law" = some (.ref fa))
    {od_need_base an_need_base od_need_number an_need_number od_shown an_shown od_read an_read od_l_cell_at an_l_cell_at od_l_whole an_l_whole od_l_far_by an_l_far_by od_l_number_by an_l_number_by od_law an_law : Option Addr} {sl_need_base sl_need_number sl_shown sl_read sl_l_cell_at sl_l_whole sl_l_far_by sl_l_number_by sl_law : Array (Option Value)} {oc_need_base kV_need_base dc_need_base pm_need_base cd_need_base ct_need_base oc_need_number kV_need_number dc_need_number pm_need_number cd_need_number ct_need_number oc_shown kV_shown dc_shown pm_shown cd_shown ct_shown oc_read kV_read dc_read pm_read cd_read ct_read oc_l_cell_at kV_l_cell_at dc_l_cell_at pm_l_cell_at cd_l_cell_at ct_l_cell_at oc_l_whole kV_l_whole dc_l_whole pm_l_whole cd_l_whole ct_l_whole oc_l_far_by kV_l_far_by dc_l_far_by pm_l_far_by cd_l_far_by ct_l_far_by oc_l_number_by kV_l_number_by dc_l_number_by pm_l_number_by cd_l_number_by ct_l_number_by oc_law kV_law dc_law pm_law cd_law ct_law : Value} {ct_SIGNS : Tok}
    (a_need_base : PySem.W.nsIn K mainGlobals "need_base" = some (some (.ref f_need_base)))
    (l_need_base : K.lookup f_need_base = some ⟨oc_need_base, od_need_base, .func (PySem.W.fnOf "need_base" "need_base" (defArgs s_need_base) (defBody s_need_base) (defScope s_need_base) .none kV_need_base dc_need_base pm_need_base an_need_base cd_need_base ct_need_base), sl_need_base⟩)
    (c_need_base : PySem.W.codeIn K cd_need_base "need_base" = true)
    (k_need_base : PySem.W.keepIn K (.ref f_need_base) = true)
    (a_need_number : PySem.W.nsIn K mainGlobals "need_number" = some (some (.ref f_need_number)))
    (l_need_number : K.lookup f_need_number = some ⟨oc_need_number, od_need_number, .func (PySem.W.fnOf "need_number" "need_number" (defArgs s_need_number) (defBody s_need_number) (defScope s_need_number) .none kV_need_number dc_need_number pm_need_number an_need_number cd_need_number ct_need_number), sl_need_number⟩)
    (c_need_number : PySem.W.codeIn K cd_need_number "need_number" = true)
    (k_need_number : PySem.W.keepIn K (.ref f_need_number) = true)
    (a_shown : PySem.W.nsIn K mainGlobals "shown" = some (some (.ref f_shown)))
    (l_shown : K.lookup f_shown = some ⟨oc_shown, od_shown, .func (PySem.W.fnOf "shown" "shown" (defArgs s_shown) (defBody s_shown) (defScope s_shown) .none kV_shown dc_shown pm_shown an_shown cd_shown ct_shown), sl_shown⟩)
    (c_shown : PySem.W.codeIn K cd_shown "shown" = true)
    (k_shown : PySem.W.keepIn K (.ref f_shown) = true)
    (a_read : PySem.W.nsIn K mainGlobals "read" = some (some (.ref f_read)))
    (l_read : K.lookup f_read = some ⟨oc_read, od_read, .func (PySem.W.fnOf "read" "read" (defArgs s_read) (defBody s_read) (defScope s_read) .none kV_read dc_read pm_read an_read cd_read ct_read), sl_read⟩)
    (c_read : PySem.W.codeIn K cd_read "read" = true)
    (k_read : PySem.W.keepIn K (.ref f_read) = true)
    (a_l_cell_at : PySem.W.nsIn K mainGlobals "_law_cell_at" = some (some (.ref f_l_cell_at)))
    (l_l_cell_at : K.lookup f_l_cell_at = some ⟨oc_l_cell_at, od_l_cell_at, .func (PySem.W.fnOf "_law_cell_at" "_law_cell_at" (defArgs s_l_cell_at) (defBody s_l_cell_at) (defScope s_l_cell_at) .none kV_l_cell_at dc_l_cell_at pm_l_cell_at an_l_cell_at cd_l_cell_at ct_l_cell_at), sl_l_cell_at⟩)
    (c_l_cell_at : PySem.W.codeIn K cd_l_cell_at "_law_cell_at" = true)
    (k_l_cell_at : PySem.W.keepIn K (.ref f_l_cell_at) = true)
    (a_l_whole : PySem.W.nsIn K mainGlobals "_law_whole" = some (some (.ref f_l_whole)))
    (l_l_whole : K.lookup f_l_whole = some ⟨oc_l_whole, od_l_whole, .func (PySem.W.fnOf "_law_whole" "_law_whole" (defArgs s_l_whole) (defBody s_l_whole) (defScope s_l_whole) .none kV_l_whole dc_l_whole pm_l_whole an_l_whole cd_l_whole ct_l_whole), sl_l_whole⟩)
    (c_l_whole : PySem.W.codeIn K cd_l_whole "_law_whole" = true)
    (k_l_whole : PySem.W.keepIn K (.ref f_l_whole) = true)
    (a_l_far_by : PySem.W.nsIn K mainGlobals "_law_far_by" = some (some (.ref f_l_far_by)))
    (l_l_far_by : K.lookup f_l_far_by = some ⟨oc_l_far_by, od_l_far_by, .func (PySem.W.fnOf "_law_far_by" "_law_far_by" (defArgs s_l_far_by) (defBody s_l_far_by) (defScope s_l_far_by) .none kV_l_far_by dc_l_far_by pm_l_far_by an_l_far_by cd_l_far_by ct_l_far_by), sl_l_far_by⟩)
    (c_l_far_by : PySem.W.codeIn K cd_l_far_by "_law_far_by" = true)
    (k_l_far_by : PySem.W.keepIn K (.ref f_l_far_by) = true)
    (a_l_number_by : PySem.W.nsIn K mainGlobals "_law_number_by" = some (some (.ref f_l_number_by)))
    (l_l_number_by : K.lookup f_l_number_by = some ⟨oc_l_number_by, od_l_number_by, .func (PySem.W.fnOf "_law_number_by" "_law_number_by" (defArgs s_l_number_by) (defBody s_l_number_by) (defScope s_l_number_by) .none kV_l_number_by dc_l_number_by pm_l_number_by an_l_number_by cd_l_number_by ct_l_number_by), sl_l_number_by⟩)
    (c_l_number_by : PySem.W.codeIn K cd_l_number_by "_law_number_by" = true)
    (k_l_number_by : PySem.W.keepIn K (.ref f_l_number_by) = true)
    (a_law : PySem.W.nsIn K mainGlobals "law" = some (some (.ref f_law)))
    (l_law : K.lookup f_law = some ⟨oc_law, od_law, .func (PySem.W.fnOf "law" "law" (defArgs s_law) (defBody s_law) (defScope s_law) .none kV_law dc_law pm_law an_law cd_law ct_law), sl_law⟩)
    (c_law : PySem.W.codeIn K cd_law "law" = true)
    (k_law : PySem.W.keepIn K (.ref f_law) = true)
    (ac_FallError : PySem.W.nsIn K mainGlobals "FallError" = some (some (.ref C_FallError)))
    (x_FallError : PySem.W.excIn K C_FallError [.type "ValueError", .type "Exception", .type "BaseException", .type "object"] "ValueError.__new__" = true)
    (k_FallError : PySem.W.keepIn K (.ref C_FallError) = true)
    (xb_FallError : PySem.W.subIn K (.ref C_FallError) (.type "BaseException") = some true)
    (xt_FallError : PySem.W.typeIn K (.ref C_FallError) = some (.type "type"))
    (ac_NoBase : PySem.W.nsIn K mainGlobals "NoBase" = some (some (.ref C_NoBase)))
    (x_NoBase : PySem.W.excIn K C_NoBase [.type "ValueError", .type "Exception", .type "BaseException", .type "object"] "ValueError.__new__" = true)
    (k_NoBase : PySem.W.keepIn K (.ref C_NoBase) = true)
    (xb_NoBase : PySem.W.subIn K (.ref C_NoBase) (.type "BaseException") = some true)
    (xt_NoBase : PySem.W.typeIn K (.ref C_NoBase) = some (.type "type"))
    (ac_NoNumber : PySem.W.nsIn K mainGlobals "NoNumber" = some (some (.ref C_NoNumber)))
    (x_NoNumber : PySem.W.excIn K C_NoNumber [.type "ValueError", .type "Exception", .type "BaseException", .type "object"] "ValueError.__new__" = true)
    (k_NoNumber : PySem.W.keepIn K (.ref C_NoNumber) = true)
    (xb_NoNumber : PySem.W.subIn K (.ref C_NoNumber) (.type "BaseException") = some true)
    (xt_NoNumber : PySem.W.typeIn K (.ref C_NoNumber) = some (.type "type"))
    (cc_SIGNS : PySem.W.nsIn K mainGlobals "SIGNS" = some (some (.str "0123456789abcdef" ct_SIGNS)))
    (nn_ValueError : PySem.W.nsIn K mainGlobals "ValueError" = some none)
    (nn_bool : PySem.W.nsIn K mainGlobals "bool" = some none)
    (nn_int : PySem.W.nsIn K mainGlobals "int" = some none)
    (nn_isinstance : PySem.W.nsIn K mainGlobals "isinstance" = some none)
    (nn_len : PySem.W.nsIn K mainGlobals "len" = some none)
    (nn_str : PySem.W.nsIn K mainGlobals "str" = some none) :
    ∃ fd : FuncData, (∀ (s : Shared) (v : Value), BindsTo s fd ⟨[v], []⟩ [("_law_script", v)]) ∧ ∀ base : Heap, K.In base → base.Ns mainGlobals mg → FnOk l.prog w K mg base CX0 3 fa fd ["_law_script"] (sp_law K) := by
  have e : f_law = fa := (Value.ref.inj (Option.some.inj (hfa.symm.trans (PySem.W.mg_of X G a_law)))).symm
  subst e
  have F_need_base := fun_mk (st := s_need_base) l_need_base c_need_base k_need_base
  have b_need_base := F_need_base.binds (ps := ["base"]) fun _ _ _ _ _ _ us hl => match us, hl with | [_], _ => rfl
  have F_need_number := fun_mk (st := s_need_number) l_need_number c_need_number k_need_number
  have b_need_number := F_need_number.binds (ps := ["number"]) fun _ _ _ _ _ _ us hl => match us, hl with | [_], _ => rfl
  have F_shown := fun_mk (st := s_shown) l_shown c_shown k_shown
  have b_shown := F_shown.binds (ps := ["number", "base"]) fun _ _ _ _ _ _ us hl => match us, hl with | [_, _], _ => rfl
  have F_read := fun_mk (st := s_read) l_read c_read k_read
  have b_read := F_read.binds (ps := ["line", "base"]) fun _ _ _ _ _ _ us hl => match us, hl with | [_, _], _ => rfl
  have F_l_cell_at := fun_mk (st := s_l_cell_at) l_l_cell_at c_l_cell_at k_l_cell_at
  have b_l_cell_at := F_l_cell_at.binds (ps := ["_law_script", "_law_k"]) fun _ _ _ _ _ _ us hl => match us, hl with | [_, _], _ => rfl
  have F_l_whole := fun_mk (st := s_l_whole) l_l_whole c_l_whole k_l_whole
  have b_l_whole := F_l_whole.binds (ps := ["_law_found"]) fun _ _ _ _ _ _ us hl => match us, hl with | [_], _ => rfl
  have F_l_far_by := fun_mk (st := s_l_far_by) l_l_far_by c_l_far_by k_l_far_by
  have b_l_far_by := F_l_far_by.binds (ps := ["_law_cell"]) fun _ _ _ _ _ _ us hl => match us, hl with | [_], _ => rfl
  have F_l_number_by := fun_mk (st := s_l_number_by) l_l_number_by c_l_number_by k_l_number_by
  have b_l_number_by := F_l_number_by.binds (ps := ["_law_cell", "_law_way"]) fun _ _ _ _ _ _ us hl => match us, hl with | [_, _], _ => rfl
  have F_law := fun_mk (st := s_law) l_law c_law k_law
  have b_law := F_law.binds (ps := ["_law_script"]) fun _ _ _ _ _ _ us hl => match us, hl with | [_], _ => rfl
  have T : Txt K mg { f_need_base := f_need_base, d_need_base := PySem.W.fnOf "need_base" "need_base" (defArgs s_need_base) (defBody s_need_base) (defScope s_need_base) .none kV_need_base dc_need_base pm_need_base an_need_base cd_need_base ct_need_base, f_need_number := f_need_number, d_need_number := PySem.W.fnOf "need_number" "need_number" (defArgs s_need_number) (defBody s_need_number) (defScope s_need_number) .none kV_need_number dc_need_number pm_need_number an_need_number cd_need_number ct_need_number, f_shown := f_shown, d_shown := PySem.W.fnOf "shown" "shown" (defArgs s_shown) (defBody s_shown) (defScope s_shown) .none kV_shown dc_shown pm_shown an_shown cd_shown ct_shown, f_read := f_read, d_read := PySem.W.fnOf "read" "read" (defArgs s_read) (defBody s_read) (defScope s_read) .none kV_read dc_read pm_read an_read cd_read ct_read, f_l_cell_at := f_l_cell_at, d_l_cell_at := PySem.W.fnOf "_law_cell_at" "_law_cell_at" (defArgs s_l_cell_at) (defBody s_l_cell_at) (defScope s_l_cell_at) .none kV_l_cell_at dc_l_cell_at pm_l_cell_at an_l_cell_at cd_l_cell_at ct_l_cell_at, f_l_whole := f_l_whole, d_l_whole := PySem.W.fnOf "_law_whole" "_law_whole" (defArgs s_l_whole) (defBody s_l_whole) (defScope s_l_whole) .none kV_l_whole dc_l_whole pm_l_whole an_l_whole cd_l_whole ct_l_whole, f_l_far_by := f_l_far_by, d_l_far_by := PySem.W.fnOf "_law_far_by" "_law_far_by" (defArgs s_l_far_by) (defBody s_l_far_by) (defScope s_l_far_by) .none kV_l_far_by dc_l_far_by pm_l_far_by an_l_far_by cd_l_far_by ct_l_far_by, f_l_number_by := f_l_number_by, d_l_number_by := PySem.W.fnOf "_law_number_by" "_law_number_by" (defArgs s_l_number_by) (defBody s_l_number_by) (defScope s_l_number_by) .none kV_l_number_by dc_l_number_by pm_l_number_by an_l_number_by cd_l_number_by ct_l_number_by, f_law := f_law, d_law := PySem.W.fnOf "law" "law" (defArgs s_law) (defBody s_law) (defScope s_law) .none kV_law dc_law pm_law an_law cd_law ct_law, C_FallError := C_FallError, C_NoBase := C_NoBase, C_NoNumber := C_NoNumber } := { F_need_base := F_need_base, b_need_base := b_need_base, m_need_base := PySem.W.mg_of X G a_need_base, F_need_number := F_need_number, b_need_number := b_need_number, m_need_number := PySem.W.mg_of X G a_need_number, F_shown := F_shown, b_shown := b_shown, m_shown := PySem.W.mg_of X G a_shown, F_read := F_read, b_read := b_read, m_read := PySem.W.mg_of X G a_read, F_l_cell_at := F_l_cell_at, b_l_cell_at := b_l_cell_at, m_l_cell_at := PySem.W.mg_of X G a_l_cell_at, F_l_whole := F_l_whole, b_l_whole := b_l_whole, m_l_whole := PySem.W.mg_of X G a_l_whole, F_l_far_by := F_l_far_by, b_l_far_by := b_l_far_by, m_l_far_by := PySem.W.mg_of X G a_l_far_by, F_l_number_by := F_l_number_by, b_l_number_by := b_l_number_by, m_l_number_by := PySem.W.mg_of X G a_l_number_by, F_law := F_law, b_law := b_law, m_law := PySem.W.mg_of X G a_law, g_FallError := PySem.W.mg_of X G ac_FallError, x_FallError := x_FallError, k_FallError := k_FallError, xb_FallError := xb_FallError, xt_FallError := xt_FallError, g_NoBase := PySem.W.mg_of X G ac_NoBase, x_NoBase := x_NoBase, k_NoBase := k_NoBase, xb_NoBase := xb_NoBase, xt_NoBase := xt_NoBase, g_NoNumber := PySem.W.mg_of X G ac_NoNumber, x_NoNumber := x_NoNumber, k_NoNumber := k_NoNumber, xb_NoNumber := xb_NoNumber, xt_NoNumber := xt_NoNumber, c_SIGNS := ⟨_, PySem.W.mg_of X G cc_SIGNS⟩, n_ValueError := PySem.W.mg_none_of X G nn_ValueError, n_bool := PySem.W.mg_none_of X G nn_bool, n_int := PySem.W.mg_none_of X G nn_int, n_isinstance := PySem.W.mg_none_of X G nn_isinstance, n_len := PySem.W.mg_none_of X G nn_len, n_str := PySem.W.mg_none_of X G nn_str }
  exact ⟨_, fun s v => .of_eq rfl, fun base _ _ => ok_law T⟩
end Fall
open PySem PySem.W PyProof.Rows
set_option maxRecDepth 100000 in
set_option maxHeartbeats 0 in
theorem PySem.Challenge.cw_bucketfall_k03_written_holds : PySem.Challenge.rw_bucketfall_k03_written.Holds := by
  w_on; o_law; k_head; (case hw => w_witness2)
  k_fill
  refine L2.walk_of (l := PySem.Challenge.rw_bucketfall_k03_written) (n := 63) (k := 3) (x := "_law_script") (CX := fun _ => L2.CX0) (sp := fun w => Fall.sp_law _) rfl (by decide) rfl ⟨rfl, by decide, by decide⟩ (fun w h Y => PySem.W.kIn_of Y) ?F (fun _ _ a ns hl _ hS => ⟨a, ns, rfl, hS, hl, fun _ => rfl⟩) (fun _ _ _ _ _ h => h)
  case F =>
    intro w mg fa h KX G hmg
    refine' Fall.all_mk KX G hmg ?a_need_base ?l_need_base ?c_need_base ?k_need_base ?a_need_number ?l_need_number ?c_need_number ?k_need_number ?a_shown ?l_shown ?c_shown ?k_shown ?a_read ?l_read ?c_read ?k_read ?a_l_cell_at ?l_l_cell_at ?c_l_cell_at ?k_l_cell_at ?a_l_whole ?l_l_whole ?c_l_whole ?k_l_whole ?a_l_far_by ?l_l_far_by ?c_l_far_by ?k_l_far_by ?a_l_number_by ?l_l_number_by ?c_l_number_by ?k_l_number_by ?a_law ?l_law ?c_law ?k_law ?ac_FallError ?x_FallError ?k_FallError ?xb_FallError ?xt_FallError ?ac_NoBase ?x_NoBase ?k_NoBase ?xb_NoBase ?xt_NoBase ?ac_NoNumber ?x_NoNumber ?k_NoNumber ?xb_NoNumber ?xt_NoNumber ?cc_SIGNS ?nn_ValueError ?nn_bool ?nn_int ?nn_isinstance ?nn_len ?nn_str
    (case a_need_base => k_is)
    (case l_need_base => k_is)
    (case c_need_base => k_is)
    (case k_need_base => k_is)
    (case a_need_number => k_is)
    (case l_need_number => k_is)
    (case c_need_number => k_is)
    (case k_need_number => k_is)
    (case a_shown => k_is)
    (case l_shown => k_is)
    (case c_shown => k_is)
    (case k_shown => k_is)
    (case a_read => k_is)
    (case l_read => k_is)
    (case c_read => k_is)
    (case k_read => k_is)
    (case a_l_cell_at => k_is)
    (case l_l_cell_at => k_is)
    (case c_l_cell_at => k_is)
    (case k_l_cell_at => k_is)
    (case a_l_whole => k_is)
    (case l_l_whole => k_is)
    (case c_l_whole => k_is)
    (case k_l_whole => k_is)
    (case a_l_far_by => k_is)
    (case l_l_far_by => k_is)
    (case c_l_far_by => k_is)
    (case k_l_far_by => k_is)
    (case a_l_number_by => k_is)
    (case l_l_number_by => k_is)
    (case c_l_number_by => k_is)
    (case k_l_number_by => k_is)
    (case a_law => k_is)
    (case l_law => k_is)
    (case c_law => k_is)
    (case k_law => k_is)
    (case ac_FallError => k_is)
    (case x_FallError => k_exc)
    (case k_FallError => k_is)
    (case xb_FallError => k_is)
    (case xt_FallError => k_is)
    (case ac_NoBase => k_is)
    (case x_NoBase => k_exc)
    (case k_NoBase => k_is)
    (case xb_NoBase => k_is)
    (case xt_NoBase => k_is)
    (case ac_NoNumber => k_is)
    (case x_NoNumber => k_exc)
    (case k_NoNumber => k_is)
    (case xb_NoNumber => k_is)
    (case xt_NoNumber => k_is)
    (case cc_SIGNS => k_is)
    (case nn_ValueError => k_is)
    (case nn_bool => k_is)
    (case nn_int => k_is)
    (case nn_isinstance => k_is)
    (case nn_len => k_is)
    (case nn_str => k_is)
#print axioms PySem.Challenge.cw_bucketfall_k03_written_holds
