import PyProof.Rows.All
import Wide.All
import OpenK.AllK
import Wide.FinOn
import HandS.ForExc
import HandS.Wide
import HandS.IsInst
import HandS.Codes
import PySem.Challenge.RW_bucketfall_k02_where_numbers_part
set_option Elab.async false
set_option linter.all false
set_option maxRecDepth 100000
set_option maxHeartbeats 4000000
namespace Fall
/-! ### how often a number is divided until nothing is left -/
def flen (b n : Nat) : Nat := if h : 0 < n ∧ 2 ≤ b then flen b (n / b) + 1 else 0
termination_by n
decreasing_by exact Nat.div_lt_self h.1 h.2
theorem flen_zero (b : Nat) : flen b 0 = 0 := by
  rw [flen]
  simp
theorem flen_pos {b n : Nat} (h : 0 < n) (hb : 2 ≤ b) : flen b n = flen b (n / b) + 1 := by
  rw [flen, dif_pos ⟨h, hb⟩]
theorem cast_div (n b : Nat) : ((n : Int) / (b : Int)) = ((n / b : Nat) : Int) := by
  exact (Int.natCast_ediv n b).symm
theorem cast_mod (n b : Nat) : ((n : Int) % (b : Int)) = ((n % b : Nat) : Int) := by
  exact (Int.natCast_emod n b).symm
/-! ### where two numbers part -/
theorem part_dec {b x y : Nat} (h : x ≠ y) (hb : 2 ≤ b) : x / b + y / b < x + y := by
  have h1 : x / b ≤ x := Nat.div_le_self _ _
  have h2 : y / b ≤ y := Nat.div_le_self _ _
  rcases Nat.lt_or_ge 0 x with hx | hx
  · have := Nat.div_lt_self hx hb
    omega
  · have hy : 0 < y := by omega
    have := Nat.div_lt_self hy hb
    omega
def part (b x y : Nat) : Nat := if h : x ≠ y ∧ 2 ≤ b then part b (x / b) (y / b) + 1 else 0
termination_by x + y
decreasing_by exact part_dec h.1 h.2
theorem part_eq (b x : Nat) : part b x x = 0 := by
  rw [part, dif_neg (fun h => h.1 rfl)]
theorem part_ne {b x y : Nat} (h : x ≠ y) (hb : 2 ≤ b) : part b x y = part b (x / b) (y / b) + 1 := by
  rw [part, dif_pos ⟨h, hb⟩]
theorem part_comm (b : Nat) (hb : 2 ≤ b) : ∀ (s x y : Nat), x + y ≤ s → part b x y = part b y x
  | s, x, y, hs => by
    by_cases h : x = y
    · subst h
      rfl
    · rw [part_ne h hb, part_ne (fun e => h e.symm) hb]
      have hd := part_dec h hb
      match s, hs with
      | 0, hs => omega
      | s + 1, hs => rw [part_comm b hb s (x / b) (y / b) (by omega)]
theorem div_mod_inj {b x y : Nat} (h1 : x / b = y / b) (h2 : x % b = y % b) : x = y := by
  rw [← Nat.div_add_mod x b, ← Nat.div_add_mod y b, h1, h2]
/-- what the loop over figures comes to, from the place p and the last found f on -/
def pfin (b o t p f : Nat) : Nat := if o = t then f else p + part b o t
theorem pfin_ne {b o t p f : Nat} (hb : 2 ≤ b) (h : o % b ≠ t % b) : pfin b (o / b) (t / b) (p + 1) (p + 1) = pfin b o t p f := by
  have hne : o ≠ t := fun e => h (by rw [e])
  unfold pfin
  rw [if_neg hne, part_ne hne hb]
  by_cases e : o / b = t / b
  · rw [if_pos e, e, part_eq]
  · rw [if_neg e]
    omega
theorem pfin_eq {b o t p f : Nat} (hb : 2 ≤ b) (h : o % b = t % b) : pfin b (o / b) (t / b) (p + 1) f = pfin b o t p f := by
  unfold pfin
  by_cases e : o = t
  · subst e
    rw [if_pos rfl, if_pos rfl]
  · have e2 : o / b ≠ t / b := fun q => e (div_mod_inj q h)
    rw [if_neg e, if_neg e2, part_ne e hb]
    omega
theorem pfin_start (b x y : Nat) : pfin b x y 0 0 = part b x y := by
  unfold pfin
  by_cases e : x = y
  · subst e
    rw [if_pos rfl, part_eq]
  · rw [if_neg e]
    omega
end Fall
namespace Fall
open PySem L2
def topS (i : Nat) : Stmt := PySem.Challenge.pw_bucketfall_k02_where_numbers_part.main.body.getD i (.Pass ⟨0, 0, 0, 0⟩)
abbrev s_need_base : Stmt := topS 5
abbrev s_need_number : Stmt := topS 6
abbrev s_parting : Stmt := topS 7
abbrev s_l_cell_at : Stmt := topS 9
abbrev s_l_whole : Stmt := topS 10
abbrev s_l_power : Stmt := topS 11
abbrev s_l_far_by : Stmt := topS 12
abbrev s_l_number_by : Stmt := topS 13
abbrev s_law : Stmt := topS 14
structure Ad where
  f_need_base : Addr
  d_need_base : FuncData
  f_need_number : Addr
  d_need_number : FuncData
  f_parting : Addr
  d_parting : FuncData
  f_l_cell_at : Addr
  d_l_cell_at : FuncData
  f_l_whole : Addr
  d_l_whole : FuncData
  f_l_power : Addr
  d_l_power : FuncData
  f_l_far_by : Addr
  d_l_far_by : FuncData
  f_l_number_by : Addr
  d_l_number_by : FuncData
  f_law : Addr
  d_law : FuncData
  C_FallError : Addr
  C_NoBase : Addr
  C_NoNumber : Addr
structure Txt (K : PySem.W.Frag) (mg : Str → Option Value) (a : Ad) : Prop where
  F_need_base : Fun K "need_base" "need_base" s_need_base a.f_need_base a.d_need_base
  m_need_base : mg "need_base" = some (.ref a.f_need_base)
  b_need_base : Binds K a.d_need_base ["base"] []
  F_need_number : Fun K "need_number" "need_number" s_need_number a.f_need_number a.d_need_number
  m_need_number : mg "need_number" = some (.ref a.f_need_number)
  b_need_number : Binds K a.d_need_number ["number"] []
  F_parting : Fun K "parting" "parting" s_parting a.f_parting a.d_parting
  m_parting : mg "parting" = some (.ref a.f_parting)
  b_parting : Binds K a.d_parting ["one", "other", "base"] []
  F_l_cell_at : Fun K "_law_cell_at" "_law_cell_at" s_l_cell_at a.f_l_cell_at a.d_l_cell_at
  m_l_cell_at : mg "_law_cell_at" = some (.ref a.f_l_cell_at)
  b_l_cell_at : Binds K a.d_l_cell_at ["_law_script", "_law_k"] []
  F_l_whole : Fun K "_law_whole" "_law_whole" s_l_whole a.f_l_whole a.d_l_whole
  m_l_whole : mg "_law_whole" = some (.ref a.f_l_whole)
  b_l_whole : Binds K a.d_l_whole ["_law_found"] []
  F_l_power : Fun K "_law_power" "_law_power" s_l_power a.f_l_power a.d_l_power
  m_l_power : mg "_law_power" = some (.ref a.f_l_power)
  b_l_power : Binds K a.d_l_power ["_law_base", "_law_many"] []
  F_l_far_by : Fun K "_law_far_by" "_law_far_by" s_l_far_by a.f_l_far_by a.d_l_far_by
  m_l_far_by : mg "_law_far_by" = some (.ref a.f_l_far_by)
  b_l_far_by : Binds K a.d_l_far_by ["_law_cell"] []
  F_l_number_by : Fun K "_law_number_by" "_law_number_by" s_l_number_by a.f_l_number_by a.d_l_number_by
  m_l_number_by : mg "_law_number_by" = some (.ref a.f_l_number_by)
  b_l_number_by : Binds K a.d_l_number_by ["_law_cell", "_law_way"] []
  F_law : Fun K "law" "law" s_law a.f_law a.d_law
  m_law : mg "law" = some (.ref a.f_law)
  b_law : Binds K a.d_law ["_law_script"] []
  g_FallError : mg "FallError" = some (.ref a.C_FallError)
  x_FallError : PySem.W.excIn K a.C_FallError [.type "ValueError", .type "Exception", .type "BaseException", .type "object"] "ValueError.__new__" = true
  k_FallError : PySem.W.keepIn K (.ref a.C_FallError) = true
  xb_FallError : PySem.W.subIn K (.ref a.C_FallError) (.type "BaseException") = some true
  xt_FallError : PySem.W.typeIn K (.ref a.C_FallError) = some (.type "type")
  g_NoBase : mg "NoBase" = some (.ref a.C_NoBase)
  x_NoBase : PySem.W.excIn K a.C_NoBase [.type "ValueError", .type "Exception", .type "BaseException", .type "object"] "ValueError.__new__" = true
  k_NoBase : PySem.W.keepIn K (.ref a.C_NoBase) = true
  xb_NoBase : PySem.W.subIn K (.ref a.C_NoBase) (.type "BaseException") = some true
  xt_NoBase : PySem.W.typeIn K (.ref a.C_NoBase) = some (.type "type")
  g_NoNumber : mg "NoNumber" = some (.ref a.C_NoNumber)
  x_NoNumber : PySem.W.excIn K a.C_NoNumber [.type "ValueError", .type "Exception", .type "BaseException", .type "object"] "ValueError.__new__" = true
  k_NoNumber : PySem.W.keepIn K (.ref a.C_NoNumber) = true
  xb_NoNumber : PySem.W.subIn K (.ref a.C_NoNumber) (.type "BaseException") = some true
  xt_NoNumber : PySem.W.typeIn K (.ref a.C_NoNumber) = some (.type "type")
  n_ValueError : mg "ValueError" = none
  n_bool : mg "bool" = none
  n_int : mg "int" = none
  n_isinstance : mg "isinstance" = none
  n_len : mg "len" = none
  n_range : mg "range" = none
/-! ### small words -/
theorem ifd {p : Prop} [Decidable p] {A B : Prop} (h1 : p → A) (h2 : ¬ p → B) : if decide p = true then A else B := by
  by_cases h : p
  · rw [if_pos (decide_eq_true h)]
    exact h1 h
  · rw [if_neg (by rw [decide_eq_false h]; decide)]
    exact h2 h
theorem ifn {p : Prop} [Decidable p] {A B : Prop} (h1 : ¬ p → A) (h2 : p → B) : if (!decide p) = true then A else B := by
  by_cases h : p
  · rw [decide_eq_true h]
    exact iteF (h2 h)
  · rw [decide_eq_false h]
    exact iteT (h1 h)
theorem dec_ii {i j : Int} : decide (V.int i = V.int j) = decide (i = j) := by
  by_cases h : i = j
  · subst h
    simp
  · rw [decide_eq_false h, decide_eq_false (fun q => h (V.int.inj q))]
theorem dec_ss {i j : Str} : decide (V.str i = V.str j) = decide (i = j) := by
  by_cases h : i = j
  · subst h
    simp
  · rw [decide_eq_false h, decide_eq_false (fun q => h (V.str.inj q))]
theorem ifi {i j : Int} {A B : Prop} (h1 : i = j → A) (h2 : ¬ i = j → B) : if decide (V.int i = V.int j) = true then A else B := by
  rw [dec_ii]
  exact ifd h1 h2
theorem ifs {i j : Str} {A B : Prop} (h1 : i = j → A) (h2 : ¬ i = j → B) : if decide (V.str i = V.str j) = true then A else B := by
  rw [dec_ss]
  exact ifd h1 h2
theorem ifni {i j : Int} {A B : Prop} (h1 : ¬ i = j → A) (h2 : i = j → B) : if (!decide (V.int i = V.int j)) = true then A else B := by
  rw [dec_ii]
  exact ifn h1 h2
theorem bt {p : Prop} [Decidable p] (h : p) : decide p = true := decide_eq_true h
theorem divW {i : Int} {j : Int} (h1 : 0 < j) (h2 : j < 1073741824) : CDivW i j := by
  have e : (2 : Nat) ^ 30 = 1073741824 := by decide
  refine wide_div (b := 30) h1 ?_ (by decide) (by decide)
  rw [e]
  omega
theorem mod_nat (c : Int) (m : Nat) (h : 0 < m) : ∃ r : Nat, c % (m : Int) = r ∧ r < m :=
  ⟨(c % (m : Int)).toNat, by
    have := Int.emod_nonneg c (show (m : Int) ≠ 0 by omega)
    omega, by
    have h1 := Int.emod_nonneg c (show (m : Int) ≠ 0 by omega)
    have h2 := Int.emod_lt_of_pos c (show (0 : Int) < (m : Int) by omega)
    omega⟩
theorem nat_of {i : Int} (h : 0 ≤ i) : ∃ n : Nat, i = n := Int.eq_ofNat_of_zero_le h
theorem modn (c : Int) {m : Int} (h : 0 < m) : ∃ n : Nat, c % m = n ∧ (n : Int) < m := by
  obtain ⟨n, e⟩ := nat_of (Int.emod_nonneg c (show m ≠ 0 by omega))
  exact ⟨n, e, by rw [← e]; exact Int.emod_lt_of_pos c h⟩
theorem cpow (j : Nat) (h : j ≤ 1000000 := by decide) : CPow 10 (j : Int) := ⟨by omega, by omega, by decide⟩
theorem same_upd1 {H : Hp} {l : Addr} {o : HO} (hl : H l = none) : Same H (upd H l o) := fun b u e => by
  rw [upd_ne (ne_of_none e hl)]
  exact e
theorem or_det {A B : TT} {σ : St} {H : Hp} {ka kb : Bool} (ha : ∀ Q : Bool → Hp → Prop, Q ka H → A σ H Q) (hb : ∀ Q : Bool → Hp → Prop, Q kb H → B σ H Q) (Q : Bool → Hp → Prop) (q : Q (ka || kb) H) : tOr A B σ H Q := by
  refine ha _ ?_
  cases ka with
  | true => exact iteT q
  | false => exact iteF (hb Q q)
theorem and_det {A B : TT} {σ : St} {H : Hp} {ka kb : Bool} (ha : ∀ Q : Bool → Hp → Prop, Q ka H → A σ H Q) (hb : ka = true → ∀ Q : Bool → Hp → Prop, Q kb H → B σ H Q) (Q : Bool → Hp → Prop) (q : Q (ka && kb) H) : tAnd A B σ H Q := by
  refine ha _ ?_
  cases ka with
  | true => exact iteT (hb rfl Q q)
  | false => exact iteF q
def sp_law (K : PySem.W.Frag) : Sp := fun vs H Q _ => ∃ (s : Addr) (ns : List Int), vs = [.ref s] ∧ SqL K H s (ns.map V.int) ∧ ns.length ≤ 63 ∧ ∀ H', Q (.bl true) H'
theorem sc_need_base : FnScope ["base"] ["base"] (defScope s_need_base) := ⟨rfl, rfl, rfl, by decide +kernel, rfl, by decide +kernel, by decide +kernel⟩
def sp_need_base (a : Ad) : Sp := fun vs H Q E => ∃ b : Int, vs = [.int b] ∧ ((b < 2 ∨ 16 < b) → E (.ref a.C_NoBase) none H) ∧ (2 ≤ b → b ≤ 16 → Q .non H)
theorem ok_need_base {P : Program} {w : World} {K : PySem.W.Frag} {mg : Str → Option Value} {base : Heap} {a : Ad} (T : Txt K mg a) : FnOk P w K mg base (L2.CX P w) 1 a.f_need_base a.d_need_base ["base"] (sp_need_base a) := by
  skip
  refine T.F_need_base.okX sc_need_base (fun vs H Q E h => ?_) (fun cdv A outer s H vs Q E hr h => ?_)
  · obtain ⟨b, rfl, _⟩ := h
    rfl
  · obtain ⟨b, rfl, h1, h2⟩ := h
    refine ⟨_, (pss_one (ps_if (PW.pt (pw_or (pt_cmpR op_lt (pv 0) pe_int (nomark _)) (pw_or1 (pt_cmpR op_gt (pv 0) pe_int (nomark _))))) (pss_one (ps_raise rfl (takes_of rfl rfl rfl rfl) (pmk_own PySem.F.excBase_ValueError T.x_NoBase T.g_NoBase T.k_NoBase (raises_own T.xb_NoBase T.xt_NoBase) rfl))) pss_nil)), ?_⟩
    refine ⟨_, rfl, _, _, rfl, rfl, _, rfl, ifd (fun c => iteT (h1 (Or.inl c))) (fun c => ⟨_, rfl, _, _, rfl, rfl, _, rfl, ifd (fun d => h1 (Or.inr d)) (fun d => h2 (by omega) (by omega))⟩)⟩
theorem sc_need_number : FnScope ["number"] ["number"] (defScope s_need_number) := ⟨rfl, rfl, rfl, by decide +kernel, rfl, by decide +kernel, by decide +kernel⟩
def sp_need_number (a : Ad) : Sp := fun vs H Q E => ∃ n : Int, vs = [.int n] ∧ (n < 0 → E (.ref a.C_NoNumber) none H) ∧ (0 ≤ n → Q .non H)
theorem ok_need_number {P : Program} {w : World} {K : PySem.W.Frag} {mg : Str → Option Value} {base : Heap} {a : Ad} (T : Txt K mg a) : FnOk P w K mg base (L2.CX P w) 1 a.f_need_number a.d_need_number ["number"] (sp_need_number a) := by
  skip
  refine T.F_need_number.okX sc_need_number (fun vs H Q E h => ?_) (fun cdv A outer s H vs Q E hr h => ?_)
  · obtain ⟨b, rfl, _⟩ := h
    rfl
  · obtain ⟨b, rfl, h1, h2⟩ := h
    refine ⟨_, (pss_one (ps_if (pt_cmpR op_lt (pv 0) pe_int (nomark _)) (pss_one (ps_raise rfl (takes_of rfl rfl rfl rfl) (pmk_own PySem.F.excBase_ValueError T.x_NoNumber T.g_NoNumber T.k_NoNumber (raises_own T.xb_NoNumber T.xt_NoNumber) rfl))) pss_nil)), ?_⟩
    exact ⟨_, rfl, _, _, rfl, rfl, _, rfl, ifd (fun c => h1 c) (fun c => h2 (by omega))⟩
theorem sc_parting : FnScope ["one", "other", "base", "place", "found"] ["one", "other", "base"] (defScope s_parting) := ⟨rfl, rfl, rfl, by decide +kernel, rfl, by decide +kernel, by decide +kernel⟩
def sp_parting (a : Ad) : Sp := fun vs H Q E => ∃ x y b : Int, vs = [.int x, .int y, .int b] ∧ ((b < 2 ∨ 16 < b) → E (.ref a.C_NoBase) none H) ∧ (2 ≤ b → b ≤ 16 → (x < 0 ∨ y < 0) → E (.ref a.C_NoNumber) none H) ∧
  (∀ x' y' b' : Nat, x = x' → y = y' → b = b' → 2 ≤ b' → b' ≤ 16 → Q (.int (part b' x' y')) H)
theorem ok_parting {P : Program} {w : World} {K : PySem.W.Frag} {mg : Str → Option Value} {base : Heap} {a : Ad} (T : Txt K mg a) : FnOk P w K mg base (L2.CX P w) 2 a.f_parting a.d_parting ["one", "other", "base"] (sp_parting a) := by
  have G_need_base := @ok_need_base P w K mg base a T
  have G_need_number := @ok_need_number P w K mg base a T
  refine T.F_parting.okX sc_parting (fun vs H Q E h => ?_) (fun cdv A outer s H vs Q E hr h => ?_)
  · obtain ⟨_, _, _, rfl, _⟩ := h
    rfl
  · obtain ⟨x, y, b, rfl, h1, h2, h3⟩ := h
    refine ⟨_, (pss_cons (ps_expr (pe_call G_need_base (hr.mono (by decide)) rfl T.m_need_base T.F_need_base.kp T.b_need_base .nil (passes_call (takes_of rfl rfl rfl rfl) (fun _ _ _ _ h => h)) (pa_cons (pv 2) pa_nil)))
      (pss_cons (ps_expr (pe_call G_need_number (hr.mono (by decide)) rfl T.m_need_number T.F_need_number.kp T.b_need_number .nil (passes_call (takes_of rfl rfl rfl rfl) (fun _ _ _ _ h => h)) (pa_cons (pv 0) pa_nil)))
      (pss_cons (ps_expr (pe_call G_need_number (hr.mono (by decide)) rfl T.m_need_number T.F_need_number.kp T.b_need_number .nil (passes_call (takes_of rfl rfl rfl rfl) (fun _ _ _ _ h => h)) (pa_cons (pv 1) pa_nil)))
      (pss_cons (ps_set (i := 3) sc_parting.nd rfl (Or.inl rfl) pe_int)
      (pss_cons (ps_set (i := 4) sc_parting.nd rfl (Or.inl rfl) pe_int)
      (pss_cons (ps_while (passes_of rfl) (PW.pt (pw_or (pt_cmpR op_gt (pv 0) pe_int (nomark _)) (pw_or1 (pt_cmpR op_gt (pv 1) pe_int (nomark _))))) (pss_cons (ps_set (i := 3) sc_parting.nd rfl (Or.inl rfl) (pe_op op_add (pv 3) pe_int))
      (C8.pss_cut (ps_if (pt_cmpR op_ne (pe_op op_mod (pv 0) (pv 2)) (pe_op op_mod (pv 1) (pv 2)) (nomark _)) (pss_one (ps_set (i := 4) sc_parting.nd rfl (Or.inl rfl) (pv 3))) pss_nil)
      (pss_cons (ps_set (i := 0) sc_parting.nd rfl (Or.inl rfl) (pe_op op_fdivW (pv 0) (pv 2)))
      (pss_one (ps_set (i := 1) sc_parting.nd rfl (Or.inl rfl) (pe_op op_fdivW (pv 1) (pv 2))))))))
      (pss_one (ps_ret (pv 4))))))))), ?_⟩
    refine ⟨_, rfl, b, rfl, h1, fun c1 c2 => ⟨_, rfl, x, rfl, fun c => h2 c1 c2 (Or.inl c), fun c3 => ⟨_, rfl, y, rfl, fun c => h2 c1 c2 (Or.inr c), fun c4 => ?_⟩⟩⟩
    obtain ⟨x0, rfl⟩ := nat_of c3
    obtain ⟨y0, rfl⟩ := nat_of c4
    obtain ⟨b0, rfl⟩ := nat_of (show 0 ≤ b by omega)
    have k := h3 x0 y0 b0 rfl rfl rfl (by omega) (by omega)
    refine ⟨fun m σ H' => ∃ o t p f : Nat, m = o + t ∧ H' = H ∧ σ = [some (.int o), some (.int t), some (.int b0), some (.int p), some (.int f)] ∧ pfin b0 o t p f = part b0 x0 y0, ⟨_, x0, y0, 0, 0, rfl, rfl, rfl, pfin_start _ _ _⟩, ?_⟩
    rintro m σ H' ⟨o, t, p, f, rfl, rfl, rfl, e⟩
    refine or_det (ka := decide ((0 : Int) < o)) (kb := decide ((0 : Int) < t)) (fun Q q => ⟨_, rfl, _, _, rfl, rfl, _, rfl, q⟩) (fun Q q => ⟨_, rfl, _, _, rfl, rfl, _, rfl, q⟩) _ ?_
    by_cases hpos : 0 < o + t
    · rw [if_pos (by rw [Bool.or_eq_true, decide_eq_true_eq, decide_eq_true_eq]; omega)]
      refine ⟨fun σ'' H'' => ∃ f' : Nat, (f' = p + 1 ∧ o % b0 ≠ t % b0 ∨ f' = f ∧ o % b0 = t % b0) ∧ H'' = H' ∧ σ'' = [some (.int ((o : Int) / b0)), some (.int ((t : Int) / b0)), some (.int b0), some (.int ((p : Int) + 1)), some (.int f')], ?_, ?_⟩
      · rintro σ'' H'' ⟨f', hf, rfl, rfl⟩
        refine ⟨o / b0 + t / b0, ?_, o / b0, t / b0, p + 1, f', rfl, rfl, ?_, ?_⟩
        · have h1 : o / b0 ≤ o := Nat.div_le_self _ _
          have h2 : t / b0 ≤ t := Nat.div_le_self _ _
          rcases Nat.lt_or_ge 0 o with hx | hx
          · have := Nat.div_lt_self hx (show 1 < b0 by omega)
            omega
          · have hy : 0 < t := by omega
            have := Nat.div_lt_self hy (show 1 < b0 by omega)
            omega
        · rw [cast_div, cast_div]
          rfl
        · rcases hf with ⟨rfl, hf⟩ | ⟨rfl, hf⟩
          · rw [pfin_ne (f := f) (by omega) hf]
            exact e
          · rw [pfin_eq (by omega) hf]
            exact e
      · have hb0 : (0 : Int) < b0 := by omega
        refine ⟨_, rfl, _, _, rfl, rfl, fun σ'' H'' => ∃ f' : Nat, (f' = p + 1 ∧ o % b0 ≠ t % b0 ∨ f' = f ∧ o % b0 = t % b0) ∧ H'' = H' ∧ σ'' = [some (.int o), some (.int t), some (.int b0), some (.int ((p : Int) + 1)), some (.int f')], ?_, ?_⟩
        · refine ⟨_, rfl, _, rfl, _, _, rfl, rfl, hb0, _, rfl, _, rfl, _, _, rfl, rfl, hb0, rfl, _, rfl, ifni (fun c => ?_) (fun c => ?_)⟩
          · refine ⟨_, rfl, p + 1, Or.inl ⟨rfl, fun q => c ?_⟩, rfl, rfl⟩
            rw [cast_mod, cast_mod, q]
          · refine ⟨f, Or.inr ⟨rfl, ?_⟩, rfl, rfl⟩
            rw [cast_mod, cast_mod] at c
            omega
        · rintro σ'' H'' ⟨f', hf, rfl, rfl⟩
          exact ⟨_, rfl, _, rfl, _, _, rfl, rfl, divW (by omega) (by omega), _, rfl, _, rfl, _, _, rfl, rfl, divW (by omega) (by omega), f', hf, rfl, rfl⟩
    · rw [if_neg (by rw [Bool.or_eq_true, decide_eq_true_eq, decide_eq_true_eq]; omega)]
      have ho : o = 0 := by omega
      have ht : t = 0 := by omega
      subst ho ht
      have e' : f = part b0 x0 y0 := by
        rw [← e]
        unfold pfin
        rw [if_pos rfl]
      subst e'
      exact ⟨_, rfl, k⟩
theorem sc_l_cell_at : FnScope ["_law_script", "_law_k"] ["_law_script", "_law_k"] (defScope s_l_cell_at) := ⟨rfl, rfl, rfl, by decide +kernel, rfl, by decide +kernel, by decide +kernel⟩
def cellI (ns : List Int) (k : Nat) : Int := ns.getD k 0
def sp_l_cell_at (K : PySem.W.Frag) : Sp := fun vs H Q _ => ∃ (s : Addr) (ns : List Int) (k : Nat), vs = [.ref s, .int k] ∧ SqL K H s (ns.map V.int) ∧ Q (.int (cellI ns k)) H
theorem ok_l_cell_at {P : Program} {w : World} {K : PySem.W.Frag} {mg : Str → Option Value} {base : Heap} {a : Ad} (T : Txt K mg a) : FnOk P w K mg base CX0 1 a.f_l_cell_at a.d_l_cell_at ["_law_script", "_law_k"] (sp_l_cell_at K) := by
  skip
  refine T.F_l_cell_at.ok sc_l_cell_at (fun vs H Q E h => ?_) (fun cdv A outer s H vs Q E hr h => ?_)
  · obtain ⟨_, _, _, rfl, _⟩ := h
    rfl
  · obtain ⟨s, ns, k, rfl, hS, q⟩ := h
    refine ⟨_, (pss_cons (ps_if (pt_cmpR op_lt (pv 1) (pe_callB call_len rfl T.n_len PySem.boot_len (pa_cons (pv 0) pa_nil)) (nomark _)) (pss_one (ps_ret (pe_ix ix_list (pv 0) (pv 1) (fun _ _ => rfl)))) pss_nil)
      (pss_one (ps_ret pe_int))), ?_⟩
    refine ⟨_, rfl, _, rfl, _, _, rfl, Or.inl ⟨_, hS, rfl⟩, _, _, rfl, rfl, _, rfl, ifd (fun c => ?_) (fun c => ?_)⟩
    · rw [List.length_map] at c
      have hk : k < ns.length := by omega
      refine ⟨_, rfl, _, rfl, s, _, _, _, rfl, rfl, hS, atI_nat (j := k) (v := V.int (cellI ns k)) ?_, q⟩
      rw [List.getElem?_map, List.getElem?_eq_getElem hk]
      show some (V.int ns[k]) = some (V.int (ns.getD k 0))
      rw [List.getD_eq_getElem?_getD, List.getElem?_eq_getElem hk]
      rfl
    · rw [List.length_map] at c
      have hk : ns.length ≤ k := by omega
      have e : cellI ns k = 0 := by
        show ns.getD k 0 = 0
        rw [List.getD_eq_getElem?_getD, List.getElem?_eq_none hk]
        rfl
      rw [e] at q
      exact q
theorem sc_l_whole : FnScope ["_law_found"] ["_law_found"] (defScope s_l_whole) := ⟨rfl, rfl, rfl, by decide +kernel, rfl, by decide +kernel, by decide +kernel⟩
def sp_l_whole : Sp := fun vs H Q _ => ∃ i : Int, vs = [.int i] ∧ Q (.bl true) H
theorem ok_l_whole {P : Program} {w : World} {K : PySem.W.Frag} {mg : Str → Option Value} {base : Heap} {a : Ad} (T : Txt K mg a) : FnOk P w K mg base CX0 1 a.f_l_whole a.d_l_whole ["_law_found"] (sp_l_whole) := by
  skip
  refine T.F_l_whole.ok sc_l_whole (fun vs H Q E h => ?_) (fun cdv A outer s H vs Q E hr h => ?_)
  · obtain ⟨_, rfl, _⟩ := h
    rfl
  · obtain ⟨i, rfl, q⟩ := h
    refine ⟨_, (pss_one (ps_ret (pe_and (pe_callB call_isi rfl T.n_isinstance (by decide +kernel) (pa_cons (pv 0) (pa_cons (pe_bltn (v := .ty "int") rfl T.n_int (by decide +kernel) rfl) pa_nil))) (pe_one (pe_not (pe_callB call_isi rfl T.n_isinstance (by decide +kernel) (pa_cons (pv 0) (pa_cons (pe_bltn (v := .ty "bool") rfl T.n_bool (by decide +kernel) rfl) pa_nil)))))))), ?_⟩
    exact ⟨_, rfl, _, _, _, _, true, rfl, .ty "int", .base (.int i), kit_ty (by decide +kernel), true, rfl, iteT ⟨_, rfl, _, _, _, _, false, rfl, .ty "bool", .base (.int i), kit_ty (by decide +kernel), false, rfl, q⟩⟩
theorem sc_l_power : FnScope ["_law_base", "_law_many", "_law_made", "_law_k"] ["_law_base", "_law_many"] (defScope s_l_power) := ⟨rfl, rfl, rfl, by decide +kernel, rfl, by decide +kernel, by decide +kernel⟩
def sp_l_power : Sp := fun vs H Q _ => ∃ b k : Nat, vs = [.int b, .int k] ∧ b ≤ 16 ∧ k ≤ 100 ∧ Q (.int ((b ^ k : Nat) : Int)) H
theorem pow_lt (b k : Nat) (hb : b ≤ 16) (hk : k ≤ 100) : b ^ k < 2 ^ 401 := by
  have h1 : b ^ k ≤ 16 ^ k := Nat.pow_le_pow_left hb k
  have h2 : 16 ^ k ≤ 16 ^ 100 := Nat.pow_le_pow_right (by decide) hk
  have h3 : (16 : Nat) ^ 100 < 2 ^ 401 := by decide +kernel
  omega
theorem ok_l_power {P : Program} {w : World} {K : PySem.W.Frag} {mg : Str → Option Value} {base : Heap} {a : Ad} (T : Txt K mg a) : FnOk P w K mg base CX0 1 a.f_l_power a.d_l_power ["_law_base", "_law_many"] (sp_l_power) := by
  skip
  refine T.F_l_power.ok sc_l_power (fun vs H Q E h => ?_) (fun cdv A outer s H vs Q E hr h => ?_)
  · obtain ⟨_, _, rfl, _⟩ := h
    rfl
  · obtain ⟨b, k, rfl, hb, hk, q⟩ := h
    refine ⟨_, (pss_cons (ps_set (i := 2) sc_l_power.nd rfl (Or.inl rfl) pe_int)
      (pss_cons (ps_for PassesOwn.never rfl (pi_range1 rfl T.n_range (pa_cons (pv 1) pa_nil)) (pg_name (i := 3) sc_l_power.nd rfl (Or.inl rfl)) (pss_one (ps_set (i := 2) sc_l_power.nd rfl (Or.inl rfl) (pe_op op_mulW (pv 2) (pv 0)))))
      (pss_one (ps_ret (pv 2))))), ?_⟩
    refine ⟨_, rfl, _, rfl, by omega, by omega, for_range (lo := 0) (n := (k : Int).toNat) (fun i σ H' => ∃ v : Option V, H' = H ∧ σ = [some (.int b), some (.int k), some (.int ((b ^ i : Nat) : Int)), v]) ⟨none, rfl, rfl⟩ ?_ ?_⟩
    · rintro i σ H' hi ⟨v, rfl, rfl⟩
      have hi' : i < k := by omega
      refine ⟨_, rfl, _, rfl, _, _, rfl, rfl, wide_mul (a := 401) (b := 5) ?_ ?_ (by decide) (by decide) (by decide), some (.int (0 + (i : Int))), rfl, ?_⟩
      · rw [Int.natAbs_natCast]
        exact pow_lt b i hb (by omega)
      · rw [Int.natAbs_natCast]
        have e : (2 : Nat) ^ 5 = 32 := by decide
        omega
      · rw [Nat.pow_succ, Int.natCast_mul]
        rfl
    · rintro σ H' ⟨v, rfl, rfl⟩
      refine ⟨_, rfl, ?_⟩
      rw [Int.toNat_natCast]
      exact q
theorem sc_l_far_by : FnScope ["_law_cell", "_law_more"] ["_law_cell"] (defScope s_l_far_by) := ⟨rfl, rfl, rfl, by decide +kernel, rfl, by decide +kernel, by decide +kernel⟩
def farI (c : Int) : Int := (1 + c % 10 ^ 60) * ([10 ^ 60, 10 ^ 120, 10 ^ 180, 10 ^ 189] : List Int).getD (c % 4).toNat 0 + c % 10 ^ 64
theorem far_nn (c : Int) : 0 ≤ farI c := by
  unfold farI
  have h1 : 0 ≤ c % 10 ^ 60 := Int.emod_nonneg _ (by decide)
  have h2 : 0 ≤ c % 10 ^ 64 := Int.emod_nonneg _ (by decide)
  have h3 : 0 ≤ ([10 ^ 60, 10 ^ 120, 10 ^ 180, 10 ^ 189] : List Int).getD (c % 4).toNat 0 := by
    have a1 : 0 ≤ c % 4 := Int.emod_nonneg _ (by decide)
    have a2 : c % 4 < 4 := Int.emod_lt_of_pos _ (by decide)
    have : (c % 4).toNat = 0 ∨ (c % 4).toNat = 1 ∨ (c % 4).toNat = 2 ∨ (c % 4).toNat = 3 := by omega
    rcases this with e | e | e | e <;> rw [e] <;> decide
  have h4 := Int.mul_nonneg (show 0 ≤ 1 + c % 10 ^ 60 by omega) h3
  omega
/-- some whole number from nought on -/
def sp_l_far_by : Sp := fun vs H Q _ => ∃ c : Int, vs = [.int c] ∧ ∀ (n : Nat) (H' : Hp), Same H H' → Q (.int n) H'
theorem ten60 : ((10 : Int) ^ 60).natAbs < 2 ^ 200 := by decide +kernel
theorem ten120 : ((10 : Int) ^ 60 * 10 ^ 60).natAbs < 2 ^ 400 := by decide +kernel
theorem ten180 : ((10 : Int) ^ 60 * 10 ^ 60 * 10 ^ 60).natAbs < 2 ^ 600 := by decide +kernel
theorem ten9 : ((10 : Int) ^ 9).natAbs < 2 ^ 30 := by decide +kernel
theorem tenall (i : Nat) : (([10 ^ 60, 10 ^ 120, 10 ^ 180, 10 ^ 189] : List Int).getD i 0).natAbs < 2 ^ 630 := by
  match i with
  | 0 => decide +kernel
  | 1 => decide +kernel
  | 2 => decide +kernel
  | 3 => decide +kernel
  | _ + 4 => exact (show (0 : Int).natAbs < 2 ^ 630 by decide +kernel)
theorem one60 (c : Int) : (1 + c % 10 ^ 60).natAbs < 2 ^ 200 := by
  have h1 : 0 ≤ c % 10 ^ 60 := Int.emod_nonneg _ (by decide)
  have h2 : c % 10 ^ 60 < 10 ^ 60 := Int.emod_lt_of_pos _ (by decide)
  have h3 : (10 : Int) ^ 60 + 1 < 2 ^ 200 := by decide +kernel
  have h4 : ((2 ^ 200 : Nat) : Int) = 2 ^ 200 := by decide +kernel
  omega
theorem ok_l_far_by {P : Program} {w : World} {K : PySem.W.Frag} {mg : Str → Option Value} {base : Heap} {a : Ad} (T : Txt K mg a) : FnOk P w K mg base CX0 1 a.f_l_far_by a.d_l_far_by ["_law_cell"] (sp_l_far_by) := by
  skip
  refine T.F_l_far_by.ok sc_l_far_by (fun vs H Q E h => ?_) (fun cdv A outer s H vs Q E hr h => ?_)
  · obtain ⟨_, rfl, _⟩ := h
    rfl
  · obtain ⟨c, rfl, q⟩ := h
    refine ⟨_, (pss_cons (ps_set (i := 1) sc_l_far_by.nd rfl (Or.inl rfl) (pe_op op_mulW (pe_op op_mulW (pe_op op_pow pe_int pe_int) (pe_op op_pow pe_int pe_int)) (pe_op op_pow pe_int pe_int)))
      (pss_one (ps_ret (pe_op op_add (pe_op op_mulW (pe_op op_add pe_int (pe_op op_mod (pv 0) (pe_op op_pow pe_int pe_int))) (pe_ix ix_list (pe_lst (pa_cons (pe_op op_pow pe_int pe_int) (pa_cons (pe_op op_mulW (pe_op op_pow pe_int pe_int) (pe_op op_pow pe_int pe_int)) (pa_cons (pv 1) (pa_cons (pe_op op_mulW (pv 1) (pe_op op_pow pe_int pe_int)) pa_nil))))) (pe_op op_mod (pv 0) pe_int) (fun _ _ => rfl))) (pe_op op_mod (pv 0) (pe_op op_pow pe_int pe_int)))))), ?_⟩
    have cp : ∀ j : Nat, j ≤ 1000000 → CPow 10 (j : Int) := fun j hj => ⟨by omega, by omega, by decide⟩
    refine ⟨_, _, rfl, rfl, cp 60 (by decide), _, _, rfl, rfl, cp 60 (by decide), _, _, rfl, rfl, wide_mul (a := 200) (b := 200) ten60 ten60 (by decide) (by decide) (by decide), _, _, rfl, rfl, cp 60 (by decide), _, _, rfl, rfl, wide_mul (a := 400) (b := 200) ten120 ten60 (by decide) (by decide) (by decide), ?_⟩
    refine ⟨_, rfl, _, _, rfl, rfl, cp 60 (by decide), _, _, rfl, rfl, (show (0 : Int) < 10 ^ 60 by decide +kernel), _, _, rfl, rfl, ?_⟩
    refine ⟨_, _, rfl, rfl, cp 60 (by decide), _, _, rfl, rfl, cp 60 (by decide), _, _, rfl, rfl, cp 60 (by decide), _, _, rfl, rfl, wide_mul (a := 200) (b := 200) ten60 ten60 (by decide) (by decide) (by decide), _, rfl, _, rfl, _, _, rfl, rfl, cp 9 (by decide), _, _, rfl, rfl, wide_mul (a := 600) (b := 30) ten180 ten9 (by decide) (by decide) (by decide), (by show 4 ≤ sizeLine; decide), fun l hl => ?_⟩
    have e4 : ∃ j : Nat, c % 4 = j ∧ j < 4 := mod_nat c 4 (by decide)
    obtain ⟨j, ej, hj⟩ := e4
    have ea : atI ([V.int (10 ^ 60), V.int (10 ^ 60 * 10 ^ 60), V.int (10 ^ 60 * 10 ^ 60 * 10 ^ 60), V.int (10 ^ 60 * 10 ^ 60 * 10 ^ 60 * 10 ^ 9)]) (c % 4) = some (V.int (([10 ^ 60, 10 ^ 120, 10 ^ 180, 10 ^ 189] : List Int).getD j 0)) := by
      refine at_of (j := j) ej ?_
      match j, hj with
      | 0, _ => rfl
      | 1, _ => exact congrArg (fun z => some (V.int z)) (show (10 : Int) ^ 60 * 10 ^ 60 = 10 ^ 120 by decide +kernel)
      | 2, _ => exact congrArg (fun z => some (V.int z)) (show (10 : Int) ^ 60 * 10 ^ 60 * 10 ^ 60 = 10 ^ 180 by decide +kernel)
      | 3, _ => exact congrArg (fun z => some (V.int z)) (show (10 : Int) ^ 60 * 10 ^ 60 * 10 ^ 60 * 10 ^ 9 = 10 ^ 189 by decide +kernel)
    refine ⟨_, rfl, _, _, rfl, rfl, (show (0 : Int) < 4 by decide), l, _, _, _, rfl, rfl, SqL.of upd_same, ea, _, _, rfl, rfl, wide_mul (a := 200) (b := 630) (one60 c) (tenall j) (by decide) (by decide) (by decide), _, rfl, _, _, rfl, rfl, cp 64 (by decide), _, _, rfl, rfl, (show (0 : Int) < 10 ^ 64 by decide +kernel), _, _, rfl, rfl, ?_⟩
    have ef : farI c = (1 + c % 10 ^ 60) * ([10 ^ 60, 10 ^ 120, 10 ^ 180, 10 ^ 189] : List Int).getD j 0 + c % 10 ^ 64 := by
      unfold farI
      rw [ej]
      rfl
    obtain ⟨n, en⟩ := Int.eq_ofNat_of_zero_le (far_nn c)
    have q' := q n
    rw [← en, ef] at q'
    exact q' _ (fun b o e => by rw [upd_ne (ne_of_none e hl)]; exact e)
theorem sc_l_number_by : FnScope ["_law_cell", "_law_way"] ["_law_cell", "_law_way"] (defScope s_l_number_by) := ⟨rfl, rfl, rfl, by decide +kernel, rfl, by decide +kernel, by decide +kernel⟩
def sp_l_number_by : Sp := fun vs H Q _ => ∃ c w : Int, vs = [.int c, .int w] ∧ ∀ (n : Nat) (H' : Hp), Same H H' → Q (.int n) H'
theorem ok_l_number_by {P : Program} {w : World} {K : PySem.W.Frag} {mg : Str → Option Value} {base : Heap} {a : Ad} (T : Txt K mg a) : FnOk P w K mg base CX0 2 a.f_l_number_by a.d_l_number_by ["_law_cell", "_law_way"] (sp_l_number_by) := by
  have G_l_far_by := @ok_l_far_by P w K mg base a T
  refine T.F_l_number_by.ok sc_l_number_by (fun vs H Q E h => ?_) (fun cdv A outer s H vs Q E hr h => ?_)
  · obtain ⟨_, _, rfl, _⟩ := h
    rfl
  · obtain ⟨c, w, rfl, q⟩ := h
    refine ⟨_, (pss_cons (ps_if (pt_cmpR op_eq (pe_op op_mod (pv 1) pe_int) pe_int (nomark _)) (pss_one (ps_ret (pe_op op_mod (pv 0) pe_int))) pss_nil)
      (pss_cons (ps_if (pt_cmpR op_eq (pe_op op_mod (pv 1) pe_int) pe_int (nomark _)) (pss_one (ps_ret (pe_op op_mod (pv 0) pe_int))) pss_nil)
      (pss_cons (ps_if (pt_cmpR op_eq (pe_op op_mod (pv 1) pe_int) pe_int (nomark _)) (pss_one (ps_ret (pe_op op_mod (pv 0) (pe_op op_pow pe_int pe_int)))) pss_nil)
      (pss_cons (ps_if (pt_cmpR op_eq (pe_op op_mod (pv 1) pe_int) pe_int (nomark _)) (pss_one (ps_ret (pe_op op_mod (pv 0) (pe_op op_pow pe_int pe_int)))) pss_nil)
      (pss_one (ps_ret (pe_call G_l_far_by (hr.mono (by decide)) rfl T.m_l_far_by T.F_l_far_by.kp T.b_l_far_by .nil pass0 (pa_cons (pv 0) pa_nil)))))))), ?_⟩
    have five : (0 : Int) < 5 := by decide
    refine ⟨_, rfl, _, _, rfl, rfl, five, rfl, _, rfl, ifi (fun _ => ?_) (fun _ => ?_)⟩
    · refine ⟨_, rfl, _, _, rfl, rfl, (by show (0 : Int) < _; decide), ?_⟩
      obtain ⟨n, e, _⟩ := modn c (m := 12) (by decide)
      have q' := q n H (Same.refl H)
      rw [← e] at q'
      exact q'
    refine ⟨_, rfl, _, _, rfl, rfl, five, rfl, _, rfl, ifi (fun _ => ?_) (fun _ => ?_)⟩
    · refine ⟨_, rfl, _, _, rfl, rfl, (by show (0 : Int) < _; decide), ?_⟩
      obtain ⟨n, e, _⟩ := modn c (m := 1000) (by decide)
      have q' := q n H (Same.refl H)
      rw [← e] at q'
      exact q'
    refine ⟨_, rfl, _, _, rfl, rfl, five, rfl, _, rfl, ifi (fun _ => ?_) (fun _ => ?_)⟩
    · refine ⟨_, rfl, _, _, rfl, rfl, cpow 12, _, _, rfl, rfl, (by show (0 : Int) < 10 ^ 12; decide +kernel), ?_⟩
      obtain ⟨n, e, _⟩ := modn c (m := 10 ^ 12) (by decide +kernel)
      have q' := q n H (Same.refl H)
      rw [← e] at q'
      exact q'
    refine ⟨_, rfl, _, _, rfl, rfl, five, rfl, _, rfl, ifi (fun _ => ?_) (fun _ => ?_)⟩
    · refine ⟨_, rfl, _, _, rfl, rfl, cpow 60, _, _, rfl, rfl, (by show (0 : Int) < 10 ^ 60; decide +kernel), ?_⟩
      obtain ⟨n, e, _⟩ := modn c (m := 10 ^ 60) (by decide +kernel)
      have q' := q n H (Same.refl H)
      rw [← e] at q'
      exact q'
    exact ⟨_, rfl, c, rfl, q⟩
theorem sc_law : FnScope ["_law_script", "_law_base", "_law_one", "_law_other", "_law_way", "_law_due", "_law_left", "_law_right", "_law_found", "_law_turned"] ["_law_script"] (defScope s_law) := ⟨rfl, rfl, rfl, by decide +kernel, rfl, by decide +kernel, by decide +kernel⟩
theorem ok_law {P : Program} {w : World} {K : PySem.W.Frag} {mg : Str → Option Value} {base : Heap} {a : Ad} (T : Txt K mg a) : FnOk P w K mg base CX0 3 a.f_law a.d_law ["_law_script"] (sp_law K) := by
  have G_l_number_by := @ok_l_number_by P w K mg base a T
  have G_parting := @ok_parting P w K mg base a T
  have G_l_cell_at := @ok_l_cell_at P w K mg base a T
  have G_l_whole := @ok_l_whole P w K mg base a T
  have G_l_power := @ok_l_power P w K mg base a T
  refine T.F_law.ok sc_law (fun vs H Q E h => ?_) (fun cdv A outer s H vs Q E hr h => ?_)
  · obtain ⟨_, _, rfl, _⟩ := h
    rfl
  · obtain ⟨x, ns, rfl, hS, hlen, q⟩ := h
    refine ⟨_, (pss_cons (ps_set (i := 1) sc_law.nd rfl (Or.inl rfl) (pe_op op_add pe_int (pe_op op_mod (pe_call G_l_cell_at (hr.mono (by decide)) rfl T.m_l_cell_at T.F_l_cell_at.kp T.b_l_cell_at .nil pass0 (pa_cons (pv 0) (pa_cons pe_int pa_nil))) pe_int)))
      (pss_cons (ps_set (i := 2) sc_law.nd rfl (Or.inl rfl) (pe_call G_l_number_by (hr.mono (by decide)) rfl T.m_l_number_by T.F_l_number_by.kp T.b_l_number_by .nil pass0 (pa_cons (pe_call G_l_cell_at (hr.mono (by decide)) rfl T.m_l_cell_at T.F_l_cell_at.kp T.b_l_cell_at .nil pass0 (pa_cons (pv 0) (pa_cons pe_int pa_nil))) (pa_cons (pe_call G_l_cell_at (hr.mono (by decide)) rfl T.m_l_cell_at T.F_l_cell_at.kp T.b_l_cell_at .nil pass0 (pa_cons (pv 0) (pa_cons pe_int pa_nil))) pa_nil))))
      (pss_cons (ps_set (i := 3) sc_law.nd rfl (Or.inl rfl) (pe_call G_l_number_by (hr.mono (by decide)) rfl T.m_l_number_by T.F_l_number_by.kp T.b_l_number_by .nil pass0 (pa_cons (pe_call G_l_cell_at (hr.mono (by decide)) rfl T.m_l_cell_at T.F_l_cell_at.kp T.b_l_cell_at .nil pass0 (pa_cons (pv 0) (pa_cons pe_int pa_nil))) (pa_cons (pe_call G_l_cell_at (hr.mono (by decide)) rfl T.m_l_cell_at T.F_l_cell_at.kp T.b_l_cell_at .nil pass0 (pa_cons (pv 0) (pa_cons pe_int pa_nil))) pa_nil))))
      (pss_cons (ps_set (i := 4) sc_law.nd rfl (Or.inl rfl) (pe_op op_mod (pe_call G_l_cell_at (hr.mono (by decide)) rfl T.m_l_cell_at T.F_l_cell_at.kp T.b_l_cell_at .nil pass0 (pa_cons (pv 0) (pa_cons pe_int pa_nil))) pe_int))
      (C8.pss_cut (ps_if (pt_cmpR op_eq (pv 4) pe_int (nomark _)) (pss_one (ps_set (i := 3) sc_law.nd rfl (Or.inl rfl) (pv 2))) pss_nil)
      (C8.pss_cut (ps_if (pt_cmpR op_gt (pv 4) pe_int (nomark _)) (pss_one (ps_set (i := 3) sc_law.nd rfl (Or.inl rfl) (pe_op op_add (pv 2) (pe_op op_mulW (pe_op op_mod (pe_call G_l_cell_at (hr.mono (by decide)) rfl T.m_l_cell_at T.F_l_cell_at.kp T.b_l_cell_at .nil pass0 (pa_cons (pv 0) (pa_cons pe_int pa_nil))) (pv 1)) (pe_call G_l_power (hr.mono (by decide)) rfl T.m_l_power T.F_l_power.kp T.b_l_power .nil pass0 (pa_cons (pv 1) (pa_cons (pe_op op_mod (pe_call G_l_cell_at (hr.mono (by decide)) rfl T.m_l_cell_at T.F_l_cell_at.kp T.b_l_cell_at .nil pass0 (pa_cons (pv 0) (pa_cons pe_int pa_nil))) pe_int) pa_nil))))))) pss_nil)
      (pss_cons (ps_set (i := 5) sc_law.nd rfl (Or.inl rfl) pe_int)
      (pss_cons (ps_set (i := 6) sc_law.nd rfl (Or.inl rfl) (pv 2))
      (pss_cons (ps_set (i := 7) sc_law.nd rfl (Or.inl rfl) (pv 3))
      (pss_cons (ps_while PassesOwn.never (pt_cmpR op_ne (pv 6) (pv 7) (nomark _)) (pss_cons (ps_set (i := 6) sc_law.nd rfl (Or.inl rfl) (pe_op op_fdivW (pv 6) (pv 1)))
      (pss_cons (ps_set (i := 7) sc_law.nd rfl (Or.inl rfl) (pe_op op_fdivW (pv 7) (pv 1)))
      (pss_one (ps_set (i := 5) sc_law.nd rfl (Or.inl rfl) (pe_op op_add (pv 5) pe_int))))))
      (pss_cons (ps_set (i := 8) sc_law.nd rfl (Or.inl rfl) (pe_call G_parting (hr.mono (by decide)) rfl T.m_parting T.F_parting.kp T.b_parting .nil passL (pa_cons (pv 2) (pa_cons (pv 3) (pa_cons (pv 1) pa_nil)))))
      (pss_cons (ps_set (i := 9) sc_law.nd rfl (Or.inl rfl) (pe_call G_parting (hr.mono (by decide)) rfl T.m_parting T.F_parting.kp T.b_parting .nil passL (pa_cons (pv 3) (pa_cons (pv 2) (pa_cons (pv 1) pa_nil)))))
      (pss_one (ps_ret (pe_and (pe_call G_l_whole (hr.mono (by decide)) rfl T.m_l_whole T.F_l_whole.kp T.b_l_whole .nil pass0 (pa_cons (pv 8) pa_nil)) (pe_and (pe_call G_l_whole (hr.mono (by decide)) rfl T.m_l_whole T.F_l_whole.kp T.b_l_whole .nil pass0 (pa_cons (pv 9) pa_nil)) (pe_and (pe_cmpR op_eq (pv 8) (pv 5) (nomark _)) (pe_one (pe_cmpR op_eq (pv 9) (pv 5) (nomark _)))))))))))))))))))), ?_⟩
    have m15 : (0 : Int) < 15 := by decide
    have m5 : (0 : Int) < 5 := by decide
    obtain ⟨b0, eb, hb⟩ := modn (cellI ns 0) (m := 15) (by decide)
    obtain ⟨b, ebb, h2, h16⟩ : ∃ b : Nat, (2 : Int) + cellI ns 0 % 15 = b ∧ 2 ≤ b ∧ b ≤ 16 := ⟨2 + b0, by omega, by omega, by omega⟩
    refine ⟨_, rfl, x, ns, 0, rfl, hS, _, _, rfl, rfl, m15, _, _, rfl, rfl, ?_⟩
    refine ⟨_, rfl, x, ns, 1, rfl, hS, _, rfl, x, ns, 2, rfl, hS, _, _, rfl, fun n1 H1 s1 => ?_⟩
    have S1 := s1.seq hS
    refine ⟨_, rfl, x, ns, 3, rfl, S1, _, rfl, x, ns, 4, rfl, S1, _, _, rfl, fun n2 H2 s2 => ?_⟩
    have S2 := s2.seq S1
    refine ⟨_, rfl, x, ns, 5, rfl, S2, _, _, rfl, rfl, m5, ?_⟩
    dsimp only
    rw [ebb]
    refine ⟨fun σ H' => ∃ n : Nat, H' = H2 ∧ σ = [some (.ref x), some (.int b), some (.int n1), some (.int n), some (.int (cellI ns 5 % 5)), none, none, none, none, none], ?_, ?_⟩
    · refine ⟨_, rfl, rfl, _, rfl, ifi (fun c => ?_) (fun c => ?_)⟩
      · exact ⟨_, rfl, n1, rfl, rfl⟩
      · exact ⟨n2, rfl, rfl⟩
    rintro σ H' ⟨n, rfl, rfl⟩
    refine ⟨fun σ H' => ∃ n : Nat, SqL K H' x (ns.map V.int) ∧ σ = [some (.ref x), some (.int b), some (.int n1), some (.int n), some (.int (cellI ns 5 % 5)), none, none, none, none, none], ?_, ?_⟩
    · refine ⟨_, rfl, _, _, rfl, rfl, _, rfl, ifd (fun c => ?_) (fun c => ?_)⟩
      · obtain ⟨r, er, hr2⟩ := modn (cellI ns 3) (m := (b : Int)) (by omega)
        obtain ⟨k, ek, hk⟩ := modn (cellI ns 4) (m := 31) (by decide)
        refine ⟨_, rfl, _, rfl, x, ns, 3, rfl, S2, _, rfl, _, _, rfl, rfl, (by show (0 : Int) < b; omega), _, rfl, _, rfl, x, ns, 4, rfl, S2, _, _, rfl, rfl, (by show (0 : Int) < 31; decide), b, k, ?_, h16, by omega, _, _, rfl, rfl, ?_, _, _, rfl, rfl, n1 + r * b ^ k, S2, ?_⟩
        · show [V.int b, V.int (cellI ns 4 % 31)] = _
          rw [ek]
        · rw [er]
          refine wide_mul (a := 5) (b := 401) ?_ ?_ (by decide) (by decide) (by decide)
          · rw [Int.natAbs_natCast]
            have e : (2 : Nat) ^ 5 = 32 := by decide
            omega
          · rw [Int.natAbs_natCast]
            exact pow_lt b k h16 (by omega)
        · rw [Int.natCast_add, Int.natCast_mul, ← er]
          rfl
      · exact ⟨n, S2, rfl⟩
    rintro σ H3 ⟨n, S3, rfl⟩
    refine ⟨_, rfl, _, rfl, fun m σ H' => ∃ l r k : Nat, m = l + r ∧ H' = H3 ∧ σ = [some (.ref x), some (.int b), some (.int n1), some (.int n), some (.int (cellI ns 5 % 5)), some (.int k), some (.int l), some (.int r), none, none] ∧ k + part b l r = part b n1 n, ⟨_, n1, n, 0, rfl, rfl, rfl, by omega⟩, ?_⟩
    rintro m σ H' ⟨l, r, k, rfl, rfl, rfl, e⟩
    refine ⟨_, rfl, _, rfl, rfl, _, rfl, ifni (fun c => ?_) (fun c => ?_)⟩
    · have hne : l ≠ r := fun z => c (by rw [z])
      refine ⟨fun σ' H'' => ∃ l' r' k : Nat, l' = l / b ∧ r' = r / b ∧ H'' = H' ∧ σ' = [some (.ref x), some (.int b), some (.int n1), some (.int n), some (.int (cellI ns 5 % 5)), some (.int k), some (.int l'), some (.int r'), none, none] ∧ k + part b l' r' = part b n1 n, ?_, ?_⟩
      · rintro σ' H'' ⟨l', r', k, rfl, rfl, rfl, rfl, e⟩
        exact ⟨_, part_dec hne h2, _, _, k, rfl, rfl, rfl, e⟩
      · refine ⟨_, rfl, _, rfl, _, _, rfl, rfl, divW (by omega) (by omega), _, rfl, _, rfl, _, _, rfl, rfl, divW (by omega) (by omega), _, rfl, _, _, rfl, rfl, l / b, r / b, k + 1, rfl, rfl, rfl, ?_, ?_⟩
        · rw [← cast_div, ← cast_div]
          rfl
        · rw [part_ne hne h2] at e
          omega
    · have hlr : l = r := by omega
      subst hlr
      rw [part_eq] at e
      have e' : k = part b n1 n := by omega
      subst e'
      refine ⟨_, rfl, _, rfl, _, rfl, n1, n, b, rfl, fun z => by omega, fun _ _ z => by omega, fun x' y' b' e1 e2 e3 _ _ => ?_⟩
      obtain rfl : n1 = x' := by omega
      obtain rfl : n = y' := by omega
      obtain rfl : b = b' := by omega
      refine ⟨_, rfl, _, rfl, _, rfl, n, n1, b, rfl, fun z => by omega, fun _ _ z => by omega, fun x' y' b' e1 e2 e3 _ _ => ?_⟩
      obtain rfl : n = x' := by omega
      obtain rfl : n1 = y' := by omega
      obtain rfl : b = b' := by omega
      refine ⟨_, rfl, _, rfl, true, rfl, iteT ⟨_, rfl, _, rfl, true, rfl, iteT ⟨_, rfl, _, rfl, rfl, true, ?_, iteT ⟨_, rfl, _, rfl, rfl, ?_⟩⟩⟩⟩
      · show V.bl _ = V.bl true
        rw [dec_ii, decide_eq_true rfl]
      · rw [dec_ii, decide_eq_true (by rw [part_comm b h2 _ n n1 (Nat.le_refl _)])]
        exact q _
theorem all_mk {l : PySem.W.OpenLaw} {w : World} {K : PySem.W.Frag} {h : Heap} {mg : Str → Option Value} {fa f_need_base f_need_number f_parting f_l_cell_at f_l_whole f_l_power f_l_far_by f_l_number_by f_law C_FallError C_NoBase C_NoNumber : Addr} (X : K.In h) (G : h.Ns mainGlobals mg) (hfa : mg "law" = some (.ref fa))
    {od_need_base an_need_base od_need_number an_need_number od_parting an_parting od_l_cell_at an_l_cell_at od_l_whole an_l_whole od_l_power an_l_power od_l_far_by an_l_far_by od_l_number_by an_l_number_by od_law an_law : Option Addr} {sl_need_base sl_need_number sl_parting sl_l_cell_at sl_l_whole sl_l_power sl_l_far_by sl_l_number_by sl_law : Array (Option Value)} {oc_need_base kV_need_base dc_need_base pm_need_base cd_need_base ct_need_base oc_need_number kV_need_number dc_need_number pm_need_number cd_need_number ct_need_number oc_parting kV_parting dc_parting pm_parting cd_parting ct_parting oc_l_cell_at kV_l_cell_at dc_l_cell_at pm_l_cell_at cd_l_cell_at ct_l_cell_at oc_l_whole kV_l_whole dc_l_whole pm_l_whole cd_l_whole ct_l_whole oc_l_power kV_l_power dc_l_power pm_l_power cd_l_power ct_l_power oc_l_far_by kV_l_far_by dc_l_far_by pm_l_far_by cd_l_far_by ct_l_far_by oc_l_number_by kV_l_number_by dc_l_number_by pm_l_number_by cd_l_number_by ct_l_number_by oc_law kV_law dc_law pm_law cd_law ct_law : Value}
    (a_need_base : PySem.W.nsIn K mainGlobals "need_base" = some (some (.ref f_need_base)))
    (l_need_base : K.lookup f_need_base = some ⟨oc_need_base, od_need_base, .func (PySem.W.fnOf "need_base" "need_base" (defArgs s_need_base) (defBody s_need_base) (defScope s_need_base) .none kV_need_base dc_need_base pm_need_base an_need_base cd_need_base ct_need_base), sl_need_base⟩)
    (c_need_base : PySem.W.codeIn K cd_need_base "need_base" = true)
    (k_need_base : PySem.W.keepIn K (.ref f_need_base) = true)
    (a_need_number : PySem.W.nsIn K mainGlobals "need_number" = some (some (.ref f_need_number)))
    (l_need_number : K.lookup f_need_number = some ⟨oc_need_number, od_need_number, .func (PySem.W.fnOf "need_number" "need_number" (defArgs s_need_number) (defBody s_need_number) (defScope s_need_number) .none kV_need_number dc_need_number pm_need_number an_need_number cd_need_number ct_need_number), sl_need_number⟩)
    (c_need_number : PySem.W.codeIn K cd_need_number "need_number" = true)
    (k_need_number : PySem.W.keepIn K (.ref f_need_number) = true)
    (a_parting : PySem.W.nsIn K mainGlobals "parting" = some (some (.ref f_parting)))
    (l_parting : K.lookup f_parting = some ⟨oc_parting, od_parting, .func (PySem.W.fnOf "parting" "parting" (defArgs s_parting) (defBody s_parting) (defScope s_parting) .none kV_parting dc_parting pm_parting an_parting cd_parting ct_parting), sl_parting⟩)
    (c_parting : PySem.W.codeIn K cd_parting "parting" = true)
    (k_parting : PySem.W.keepIn K (.ref f_parting) = true)
    (a_l_cell_at : PySem.W.nsIn K mainGlobals "_law_cell_at" = some (some (.ref f_l_cell_at)))
    (l_l_cell_at : K.lookup f_l_cell_at = some ⟨oc_l_cell_at, od_l_cell_at, .func (PySem.W.fnOf "_law_cell_at" "_law_cell_at" (defArgs s_l_cell_at) (defBody s_l_cell_at) (defScope s_l_cell_at) .none kV_l_cell_at dc_l_cell_at pm_l_cell_at an_l_cell_at cd_l_cell_at ct_l_cell_at), sl_l_cell_at⟩)
    (c_l_cell_at : PySem.W.codeIn K cd_l_cell_at "_law_cell_at" = true)
    (k_l_cell_at : PySem.W.keepIn K (.ref f_l_cell_at) = true)
    (a_l_whole : PySem.W.nsIn K mainGlobals "_law_whole" = some (some (.ref f_l_whole)))
    (l_l_whole : K.lookup f_l_whole = some ⟨oc_l_whole, od_l_whole, .func (PySem.W.fnOf "_law_whole" "_law_whole" (defArgs s_l_whole) (defBody s_l_whole) (defScope s_l_whole) .none kV_l_whole dc_l_whole pm_l_whole an_l_whole cd_l_whole ct_l_whole), sl_l_whole⟩)
    (c_l_whole : PySem.W.codeIn K cd_l_whole "_law_whole" = true)
    (k_l_whole : PySem.W.keepIn K (.ref f_l_whole) = true)
    (a_l_power : PySem.W.nsIn K mainGlobals "_law_power" = some (some (.ref f_l_power)))
    (l_l_power : K.lookup f_l_power = some ⟨oc_l_power, od_l_power, .func (PySem.W.fnOf "_law_power" "_law_power" (defArgs s_l_power) (defBody s_l_power) (defScope s_l_power) .none kV_l_power dc_l_power pm_l_power an_l_power cd_l_power ct_l_power), sl_l_power⟩)
    (c_l_power : PySem.W.codeIn K cd_l_power "_law_power" = true)
    (k_l_power : PySem.W.keepIn K (.ref f_l_power) = true)
    (a_l_far_by : PySem.W.nsIn K mainGlobals "_law_far_by" = some (some (.ref f_l_far_by)))
    (l_l_far_by : K.lookup f_l_far_by = some ⟨oc_l_far_by, od_l_far_by, .func (PySem.W.fnOf "_law_far_by" "_law_far_by" (defArgs s_l_far_by) (defBody s_l_far_by) (defScope s_l_far_by) .none kV_l_far_by dc_l_far_by pm_l_far_by an_l_far_by cd_l_far_by ct_l_far_by), sl_l_far_by⟩)
    (c_l_far_by : PySem.W.codeIn K cd_l_far_by "_law_far_by" = true)
    (k_l_far_by : PySem.W.keepIn K (.ref f_l_far_by) = true)
    (a_l_number_by : PySem.W.nsIn K mainGlobals "_law_number_by" = some (some (.ref f_l_number_by)))
    (l_l_number_by : K.lookup f_l_number_by = some ⟨oc_l_number_by, od_l_number_by, .func (PySem.W.fnOf "_law_number_by" "_law_number_by" (defArgs s_l_number_by) (defBody s_l_number_by) (defScope s_l_number_by) .none kV_l_number_by dc_l_number_by pm_l_number_by an_l_number_by cd_l_number_by ct_l_number_by), sl_l_number_by⟩)
    (c_l_number_by : PySem.W.codeIn K cd_l_number_by "_law_number_by" = true)
    (k_l_number_by : PySem.W.keepIn K (.ref f_l_number_by) = true)
    (a_law : PySem.W.nsIn K mainGlobals "law" = some (some (.ref f_law)))
    (l_law : K.lookup f_law = some ⟨oc_law, od_law, .func (PySem.W.fnOf "law" "law" (defArgs s_law) (defBody s_law) (defScope s_law) .none kV_law dc_law pm_law an_law cd_law ct_law), sl_law⟩)
    (c_law : PySem.W.codeIn K cd_law "law" = true)
    (k_law : PySem.W.keepIn K (.ref f_law) = true)
    (ac_FallError : PySem.W.nsIn K mainGlobals "FallError" = some (some (.ref C_FallError)))
    (x_FallError : PySem.W.excIn K C_FallError [.type "ValueError", .type "Exception", .type "BaseException", .type "object"] "ValueError.__new__" = true)
    (k_FallError : PySem.W.keepIn K (.ref C_FallError) = true)
    (xb_FallError : PySem.W.subIn K (.ref C_FallError) (.type "BaseException") = some true)
    (xt_FallError : PySem.W.typeIn K (.ref C_FallError) = some (.type "type"))
    (ac_NoBase : PySem.W.nsIn K mainGlobals "NoBase" = some (some (.ref C_NoBase)))
    (x_NoBase : PySem.W.excIn K C_NoBase [.type "ValueError", .type "Exception", .type "BaseException", .type "object"] "ValueError.__new__" = true)
    (k_NoBase : PySem.W.keepIn K (.ref C_NoBase) = true)
    (xb_NoBase : PySem.W.subIn K (.ref C_NoBase) (.type "BaseException") = some true)
    (xt_NoBase : PySem.W.typeIn K (.ref C_NoBase) = some (.type "type"))
    (ac_NoNumber : PySem.W.nsIn K mainGlobals "NoNumber" = some (some (.ref C_NoNumber)))
    (x_NoNumber : PySem.W.excIn K C_NoNumber [.type "ValueError", .type "Exception", .type "BaseException", .type "object"] "ValueError.__new__" = true)
    (k_NoNumber : PySem.W.keepIn K (.ref C_NoNumber) = true)
    (xb_NoNumber : PySem.W.subIn K (.ref C_NoNumber) (.type "BaseException") = some true)
    (xt_NoNumber : PySem.W.typeIn K (.ref C_NoNumber) = some (.type "type"))
    (nn_ValueError : PySem.W.nsIn K mainGlobals "ValueError" = some none)
    (nn_bool : PySem.W.nsIn K mainGlobals "bool" = some none)
    (nn_int : PySem.W.nsIn K mainGlobals "int" = some none)
    (nn_isinstance : PySem.W.nsIn K mainGlobals "isinstance" = some none)
    (nn_len : PySem.W.nsIn K mainGlobals "len" = some none)
    (nn_range : PySem.W.nsIn K mainGlobals "range" = some none) :
    ∃ fd : FuncData, (∀ (s : Shared) (v : Value), BindsTo s fd ⟨[v], []⟩ [("_law_script", v)]) ∧ ∀ base : Heap, K.In base → base.Ns mainGlobals mg → FnOk l.prog w K mg base CX0 3 fa fd ["_law_script"] (sp_law K) := by
  have e : f_law = fa := (Value.ref.inj (Option.some.inj (hfa.symm.trans (PySem.W.mg_of X G a_law)))).symm
  subst e
  have F_need_base := fun_mk (st := s_need_base) l_need_base c_need_base k_need_base
  have b_need_base := F_need_base.binds (ps := ["base"]) fun _ _ _ _ _ _ us hl => match us, hl with | [_], _ => rfl
  have F_need_number := fun_mk (st := s_need_number) l_need_number c_need_number k_need_number
  have b_need_number := F_need_number.binds (ps := ["number"]) fun _ _ _ _ _ _ us hl => match us, hl with | [_], _ => rfl
  have F_parting := fun_mk (st := s_parting) l_parting c_parting k_parting
  have b_parting := F_parting.binds (ps := ["one", "other", "base"]) fun _ _ _ _ _ _ us hl => match us, hl with | [_, _, _], _ => rfl
  have F_l_cell_at := fun_mk (st := s_l_cell_at) l_l_cell_at c_l_cell_at k_l_cell_at
  have b_l_cell_at := F_l_cell_at.binds (ps := ["_law_script", "_law_k"]) fun _ _ _ _ _ _ us hl => match us, hl with | [_, _], _ => rfl
  have F_l_whole := fun_mk (st := s_l_whole) l_l_whole c_l_whole k_l_whole
  have b_l_whole := F_l_whole.binds (ps := ["_law_found"]) fun _ _ _ _ _ _ us hl => match us, hl with | [_], _ => rfl
  have F_l_power := fun_mk (st := s_l_power) l_l_power c_l_power k_l_power
  have b_l_power := F_l_power.binds (ps := ["_law_base", "_law_many"]) fun _ _ _ _ _ _ us hl => match us, hl with | [_, _], _ => rfl
  have F_l_far_by := fun_mk (st := s_l_far_by) l_l_far_by c_l_far_by k_l_far_by
  have b_l_far_by := F_l_far_by.binds (ps := ["_law_cell"]) fun _ _ _ _ _ _ us hl => match us, hl with | [_], _ => rfl
  have F_l_number_by := fun_mk (st := s_l_number_by) l_l_number_by c_l_number_by k_l_number_by
  have b_l_number_by := F_l_number_by.binds (ps := ["_law_cell", "_law_way"]) fun _ _ _ _ _ _ us hl => match us, hl with | [_, _], _ => rfl
  have F_law := fun_mk (st := s_law) l_law c_law k_law
  have b_law := F_law.binds (ps := ["_law_script"]) fun _ _ _ _ _ _ us hl => match us, hl with | [_], _ => rfl
  have T : Txt K mg { f_need_base := f_need_base, d_need_base := PySem.W.fnOf "need_base" "need_base" (defArgs s_need_base) (defBody s_need_base) (defScope s_need_base) .none kV_need_base dc_need_base pm_need_base an_need_base cd_need_base ct_need_base, f_need_number := f_need_number, d_need_number := PySem.W.fnOf "need_number" "need_number" (defArgs s_need_number) (defBody s_need_number) (defScope s_need_number) .none kV_need_number dc_need_number pm_need_number an_need_number cd_need_number ct_need_number, f_parting := f_parting, d_parting := PySem.W.fnOf "parting" "parting" (defArgs s_parting) (defBody s_parting) (defScope s_parting) .none kV_parting dc_parting pm_parting an_parting cd_parting ct_parting, f_l_cell_at := f_l_cell_at, d_l_cell_at := PySem.W.fnOf "_law_cell_at" "_law_cell_at" (defArgs s_l_cell_at) (defBody s_l_cell_at) (defScope s_l_cell_at) .none kV_l_cell_at dc_l_cell_at pm_l_cell_at an_l_cell_at cd_l_cell_at ct_l_cell_at, f_l_whole := f_l_whole, d_l_whole := PySem.W.fnOf "_law_whole" "_law_whole" (defArgs s_l_whole) (defBody s_l_whole) (defScope s_l_whole) .none kV_l_whole dc_l_whole pm_l_whole an_l_whole cd_l_whole ct_l_whole, f_l_power := f_l_power, d_l_power := PySem.W.fnOf "_law_power" "_law_power" (defArgs s_l_power) (defBody s_l_power) (defScope s_l_power) .none kV_l_power dc_l_power pm_l_power an_l_power cd_l_power ct_l_power, f_l_far_by := f_l_far_by, d_l_far_by := PySem.W.fnOf "_law_far_by" "_law_far_by" (defArgs s_l_far_by) (defBody s_l_far_by) (defScope s_l_far_by) .none kV_l_far_by dc_l_far_by pm_l_far_by an_l_far_by cd_l_far_by ct_l_far_by, f_l_number_by := f_l_number_by, d_l_number_by := PySem.W.fnOf "_law_number_by" "_law_number_by" (defArgs s_l_number_by) (defBody s_l_number_by) (defScope s_l_number_by) .none kV_l_number_by dc_l_number_by pm_l_number_by an_l_number_by cd_l_number_by ct_l_number_by, f_law := f_law, d_law := PySem.W.fnOf "law" "law" (defArgs s_law) (defBody s_law) (defScope s_law) .none kV_law dc_law pm_law an_law cd_law ct_law, C_FallError := C_FallError, C_NoBase := C_NoBase, C_NoNumber := C_NoNumber } := { F_need_base := F_need_base, b_need_base := b_need_base, m_need_base := PySem.W.mg_of X G a_need_base, F_need_number := F_need_number, b_need_number := b_need_number, m_need_number := PySem.W.mg_of X G a_need_number, F_parting := F_parting, b_parting := b_parting, m_parting := PySem.W.mg_of X G a_parting, F_l_cell_at := F_l_cell_at, b_l_cell_at := b_l_cell_at, m_l_cell_at := PySem.W.mg_of X G a_l_cell_at, F_l_whole := F_l_whole, b_l_whole := b_l_whole, m_l_whole := PySem.W.mg_of X G a_l_whole, F_l_power := F_l_power, b_l_power := b_l_power, m_l_power := PySem.W.mg_of X G a_l_power, F_l_far_by := F_l_far_by, b_l_far_by := b_l_far_by, m_l_far_by := PySem.W.mg_of X G a_l_far_by, F_l_number_by := F_l_number_by, b_l_number_by := b_l_number_by, m_l_number_by := PySem.W.mg_of X G a_l_number_by, F_law := F_law, b_law := b_law, m_law := PySem.W.mg_of X G a_law, g_FallError := PySem.W.mg_of X G ac_FallError, x_FallError := x_FallError, k_FallError := k_FallError, xb_FallError := xb_FallError, xt_FallError := xt_FallError, g_NoBase := PySem.W.mg_of X G ac_NoBase, x_NoBase := x_NoBase, k_NoBase := k_NoBase, xb_NoBase := xb_NoBase, xt_NoBase := xt_NoBase, g_NoNumber := PySem.W.mg_of X G ac_NoNumber, x_NoNumber := x_NoNumber, k_NoNumber := k_NoNumber, xb_NoNumber := xb_NoNumber, xt_NoNumber := xt_NoNumber, n_ValueError := PySem.W.mg_none_of X G nn_ValueError, n_bool := PySem.W.mg_none_of X G nn_bool, n_int := PySem.W.mg_none_of X G nn_int, n_isinstance := PySem.W.mg_none_of X G nn_isinstance, n_len := PySem.W.mg_none_of X G nn_len, n_range := PySem.W.mg_none_of X G nn_range }
  exact ⟨_, fun s v => .of_eq rfl, fun base _ _ => ok_law T⟩
end Fall
open PySem PySem.W PyProof.Rows
set_option maxRecDepth 100000 in
set_option maxHeartbeats 0 in
theorem PySem.Challenge.cw_bucketfall_k02_where_numbers_part_holds : PySem.Challenge.rw_bucketfall_k02_where_numbers_part.Holds := by
  w_on; o_law; k_head; (case hw => w_witness2)
  k_fill
  refine L2.walk_of (l := PySem.Challenge.rw_bucketfall_k02_where_numbers_part) (n := 63) (k := 3) (x := "_law_script") (CX := fun _ => L2.CX0) (sp := fun w => Fall.sp_law _) rfl (by decide) rfl ⟨rfl, by decide, by decide⟩ (fun w h Y => PySem.W.kIn_of Y) ?F (fun _ _ a ns hl _ hS => ⟨a, ns, rfl, hS, hl, fun _ => rfl⟩) (fun _ _ _ _ _ h => h)
  case F =>
    intro w mg fa h KX G hmg
    refine' Fall.all_mk KX G hmg ?a_need_base ?l_need_base ?c_need_base ?k_need_base ?a_need_number ?l_need_number ?c_need_number ?k_need_number ?a_parting ?l_parting ?c_parting ?k_parting ?a_l_cell_at ?l_l_cell_at ?c_l_cell_at ?k_l_cell_at ?a_l_whole ?l_l_whole ?c_l_whole ?k_l_whole ?a_l_power ?l_l_power ?c_l_power ?k_l_power ?a_l_far_by ?l_l_far_by ?c_l_far_by ?k_l_far_by ?a_l_number_by ?l_l_number_by ?c_l_number_by ?k_l_number_by ?a_law ?l_law ?c_law ?k_law ?ac_FallError ?x_FallError ?k_FallError ?xb_FallError ?xt_FallError ?ac_NoBase ?x_NoBase ?k_NoBase ?xb_NoBase ?xt_NoBase ?ac_NoNumber ?x_NoNumber ?k_NoNumber ?xb_NoNumber ?xt_NoNumber ?nn_ValueError ?nn_bool ?nn_int ?nn_isinstance ?nn_len ?nn_range
    (case a_need_base => k_is)
    (case l_need_base => k_is)
    (case c_need_base => k_is)
    (case k_need_base => k_is)
    (case a_need_number => k_is)
    (case l_need_number => k_is)
    (case c_need_number => k_is)
    (case k_need_number => k_is)
    (case a_parting => k_is)
    (case l_parting => k_is)
    (case c_parting => k_is)
    (case k_parting => k_is)
    (case a_l_cell_at => k_is)
    (case l_l_cell_at => k_is)
    (case c_l_cell_at => k_is)
    (case k_l_cell_at => k_is)
    (case a_l_whole => k_is)
    (case l_l_whole => k_is)
    (case c_l_whole => k_is)
    (case k_l_whole => k_is)
    (case a_l_power => k_is)
    (case l_l_power => k_is)
    (case c_l_power => k_is)
    (case k_l_power => k_is)
    (case a_l_far_by => k_is)
    (case l_l_far_by => k_is)
    (case c_l_far_by => k_is)
    (case k_l_far_by => k_is)
    (case a_l_number_by => k_is)
    (case l_l_number_by => k_is)
    (case c_l_number_by => k_is)
    (case k_l_number_by => k_is)
    (case a_law => k_is)
    (case l_law => k_is)
    (case c_law => k_is)
    (case k_law => k_is)
    (case ac_FallError => k_is)
    (case x_FallError => k_exc)
    (case k_FallError => k_is)
    (case xb_FallError => k_is)
    (case xt_FallError => k_is)
    (case ac_NoBase => k_is)
    (case x_NoBase => k_exc)
    (case k_NoBase => k_is)
    (case xb_NoBase => k_is)
    (case xt_NoBase => k_is)
    (case ac_NoNumber => k_is)
    (case x_NoNumber => k_exc)
    (case k_NoNumber => k_is)
    (case xb_NoNumber => k_is)
    (case xt_NoNumber => k_is)
    (case nn_ValueError => k_is)
    (case nn_bool => k_is)
    (case nn_int => k_is)
    (case nn_isinstance => k_is)
    (case nn_len => k_is)
    (case nn_range => k_is)
#print axioms PySem.Challenge.cw_bucketfall_k02_where_numbers_part_holds
