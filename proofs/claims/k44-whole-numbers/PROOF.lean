import PyProof.Rows.All
import Wide.All
import OpenK.AllK
import Wide.FinOn
import HandS.ForMost
import HandS.IsInst
import HandS.Walk
import HandS.Codes
import PySem.Challenge.RW_wirefloor_k44_whole_numbers
set_option Elab.async false
set_option maxRecDepth 100000
set_option maxHeartbeats 2000000

namespace K44
open PySem L2

/-! ## The plain law: texts are lists of code points -/
def isDig (c : Nat) : Bool := decide (48 ≤ c ∧ c ≤ 57)
def numIn (l : List Nat) : Option Int :=
  if l = [] ∨ 18 < l.length then none
  else if l.all isDig = false then none
  else if l.head? = some 48 ∧ l ≠ [48] then none
  else some ((NumText.digitsVal l : Nat) : Int)
def negIn : Option Int → Option Int
  | none => none
  | some n => if n = 0 then none else some (-n)
def wholeIn (l : List Nat) : Option Int := if l.take 1 = [45] then negIn (numIn (l.drop 1)) else numIn l

theorem numIn_nil : numIn [] = none := if_pos (Or.inl rfl)
theorem numIn_long {l : List Nat} (h : 18 < l.length) : numIn l = none := if_pos (Or.inr h)
theorem numIn_bad {l : List Nat} {c : Nat} (hc : c ∈ l) (hb : isDig c = false) : numIn l = none := by
  unfold numIn
  by_cases h1 : l = [] ∨ 18 < l.length
  · rw [if_pos h1]
  · rw [if_neg h1]
    have h2 : l.all isDig = false := by
      rw [List.all_eq_false]
      exact ⟨c, hc, by rw [hb]; exact Bool.false_ne_true⟩
    rw [if_pos h2]
theorem numIn_zero {l : List Nat} (h0 : l.head? = some 48) (h : l ≠ [48]) : numIn l = none := by
  unfold numIn
  by_cases h1 : l = [] ∨ 18 < l.length
  · rw [if_pos h1]
  · rw [if_neg h1]
    by_cases h2 : l.all isDig = false
    · rw [if_pos h2]
    · rw [if_neg h2, if_pos ⟨h0, h⟩]
theorem numIn_some {l : List Nat} (h0 : l ≠ []) (h1 : ¬ 18 < l.length) (h2 : l.all isDig = true) (h3 : ¬ (l.head? = some 48 ∧ l ≠ [48])) : numIn l = some ((NumText.digitsVal l : Nat) : Int) := by
  unfold numIn
  rw [if_neg (fun z => z.elim h0 h1), if_neg (by rw [h2]; exact fun z => Bool.noConfusion z), if_neg h3]

theorem num_all (n : Nat) : (TL.numL n).all isDig = true := by
  rw [List.all_eq_true]
  intro c hc
  exact decide_eq_true (TL.numL_digits n c hc)
theorem num_zero : TL.numL 0 = [48] := TL.numL_lt (by decide)
theorem head_app {a b : List Nat} (h : a ≠ []) : (a ++ b).head? = a.head? := by
  cases a with
  | nil => exact absurd rfl h
  | cons x r => rfl
theorem num_head (n : Nat) (h0 : n ≠ 0) : (TL.numL n).head? ≠ some 48 := by
  induction n using Nat.strongRecOn with
  | _ n ih =>
    by_cases h : n < 10
    · rw [TL.numL_lt h]
      intro e
      have e2 : 48 + n = 48 := Option.some.inj e
      omega
    · rw [TL.numL_step (by omega), head_app (TL.numL_ne (n / 10))]
      exact ih (n / 10) (by omega) (by omega)
theorem num_long : ∀ (k n : Nat), 10 ^ k ≤ n → k < (TL.numL n).length
  | 0, n, _ => List.length_pos_iff.mpr (TL.numL_ne n)
  | k + 1, n, h => by
    have hp : 1 ≤ 10 ^ k := Nat.one_le_pow k 10 (by decide)
    rw [Nat.pow_succ] at h
    have h10 : 10 ≤ n := by omega
    have ih := num_long k (n / 10) (by omega)
    rw [TL.numL_step h10, List.length_append, List.length_singleton]
    omega
theorem num_free (n : Nat) : 45 ∉ TL.numL n := TL.numL_free (by omega)
theorem take1_ne {l : List Nat} (h : 45 ∉ l) : l.take 1 ≠ [45] := fun e => h (List.mem_of_mem_take (i := 1) (by rw [e]; exact List.mem_singleton.mpr rfl))

theorem numIn_num {n : Nat} (h : n < 10 ^ 18) : numIn (TL.numL n) = some (n : Int) := by
  have hl : (TL.numL n).length ≤ 18 := TL.numL_len (by decide) h
  rw [numIn_some (TL.numL_ne n) (by omega) (num_all n) ?_, TL.numL_val]
  rintro ⟨h1, h2⟩
  by_cases e : n = 0
  · exact h2 (by rw [e]; exact num_zero)
  · exact num_head n e h1
theorem wholeIn_pos {l : List Nat} (h : l.take 1 ≠ [45]) : wholeIn l = numIn l := if_neg h
theorem wholeIn_neg (l : List Nat) : wholeIn (45 :: l) = negIn (numIn l) := if_pos rfl
theorem wholeIn_none {l : List Nat} (h : l.take 1 ≠ [45]) (h2 : numIn l = none) : wholeIn l = none := (wholeIn_pos h).trans h2
theorem wholeIn_none2 {l : List Nat} (h : numIn l = none) : wholeIn (45 :: l) = none := by
  rw [wholeIn_neg, h]
  rfl
/-- the words that write a number -/
theorem good0 {n : Nat} (h : n < 10 ^ 18) : wholeIn (TL.numL n) = some (n : Int) := by
  rw [wholeIn_pos (take1_ne (num_free n)), numIn_num h]
theorem good1 {n : Nat} (h : n < 10 ^ 18) (h0 : n ≠ 0) : wholeIn (45 :: TL.numL n) = some (-(n : Int)) := by
  rw [wholeIn_neg, numIn_num h]
  exact if_neg (by omega)
theorem good1z : wholeIn (45 :: TL.numL 0) = none := by
  rw [wholeIn_neg, numIn_num (by decide)]
  rfl
/-- the words that write none -/
theorem bad3 (n : Nat) : wholeIn (45 :: 48 :: TL.numL n) = none := wholeIn_none2 (numIn_zero rfl fun e => TL.numL_ne n (List.cons.inj e).2)
theorem bad4 (n : Nat) : wholeIn (45 :: 45 :: TL.numL n) = none := wholeIn_none2 (numIn_bad (c := 45) List.mem_cons_self (by decide))
theorem bad5 (n : Nat) : wholeIn (43 :: TL.numL n) = none := wholeIn_none (fun e => absurd (List.cons.inj e).1 (by decide)) (numIn_bad (c := 43) List.mem_cons_self (by decide))
theorem bad6 {n : Nat} (h : 10 ^ 18 ≤ n) : wholeIn (TL.numL n) = none := wholeIn_none (take1_ne (num_free n)) (numIn_long (num_long 18 n h))
theorem bad6m {n : Nat} (h : 10 ^ 18 ≤ n) : wholeIn (45 :: TL.numL n) = none := wholeIn_none2 (numIn_long (num_long 18 n h))
theorem bad7 (n k : Nat) {c : Nat} (hc : isDig c = false) (h45 : c ≠ 45) : wholeIn ((TL.numL n).take k ++ [c] ++ (TL.numL n).drop k) = none := by
  refine wholeIn_none (take1_ne fun hm => ?_) (numIn_bad (c := c) (List.mem_append_left _ (List.mem_append_right _ (List.mem_singleton.mpr rfl))) hc)
  rcases List.mem_append.mp hm with hm | hm
  · rcases List.mem_append.mp hm with hm | hm
    · exact num_free n (List.mem_of_mem_take hm)
    · exact h45 (List.mem_singleton.mp hm).symm
  · exact num_free n (List.mem_of_mem_drop hm)
theorem bad8 (n k : Nat) : wholeIn ((TL.numL n).take (k + 1) ++ [45] ++ (TL.numL n).drop (k + 1)) = none := by
  refine wholeIn_none (fun e => ?_) (numIn_bad (c := 45) (List.mem_append_left _ (List.mem_append_right _ (List.mem_singleton.mpr rfl))) (by decide))
  cases hn : TL.numL n with
  | nil => exact TL.numL_ne n hn
  | cons c r =>
    rw [hn] at e
    have e2 : c = 45 := (List.cons.inj e).1
    refine num_free n ?_
    rw [hn, e2]
    exact List.mem_cons_self
theorem bad9 : wholeIn [] = none := rfl
theorem bad9m : wholeIn [45] = none := wholeIn_none2 numIn_nil

/-! ## Texts of the model -/
open TL (tl numL)
/-- a number's text, below nought too -/
theorem tl_neg {n : Nat} (h : n ≠ 0) : tl (Str.ofString (toString (-(n : Int)))) = 45 :: numL n := by
  obtain ⟨k, rfl⟩ : ∃ k, n = k + 1 := ⟨n - 1, by omega⟩
  have e1 : toString (-((k + 1 : Nat) : Int)) = "-" ++ toString ((k + 1 : Nat) : Int) := rfl
  have e2 := TL.tl_num (k + 1)
  rw [TL.tl_ofString] at e2
  rw [e1, TL.tl_ofString, String.toList_append, List.map_append, e2]
  rfl
theorem num_len {n : Nat} (h : n < 10 ^ 20) : (Str.ofString (toString (n : Int))).length ≤ 20 := by
  rw [TL.len_tl, TL.tl_num]
  exact TL.numL_len (by decide) h
theorem log2_small {i : Int} (h : i.natAbs < 2 ^ 64) : i.natAbs.log2 < 1920 := by
  by_cases h0 : i.natAbs = 0
  · rw [h0]
    decide
  · have := (Nat.log2_lt h0).mpr h
    omega
theorem tl_to (z : Str) (k : Nat) : tl (cutS z none (some (k : Int))) = (tl z).take k := by
  show ((tl z).drop (HT.sIx z.length 0 none)).take (HT.sIx z.length z.length (some (k : Int)) - HT.sIx z.length 0 none) = _
  rw [HT.sIx_none, HT.sIx_nat, List.drop_zero, Nat.sub_zero, TL.len_tl z, ← List.take_take, List.take_length]
theorem tl_from (z : Str) (k : Nat) : tl (cutS z (some (k : Int)) none) = (tl z).drop k := by
  show ((tl z).drop (HT.sIx z.length 0 (some (k : Int)))).take (HT.sIx z.length z.length none - HT.sIx z.length 0 (some (k : Int))) = _
  rw [HT.sIx_none, HT.sIx_nat, TL.len_tl z]
  by_cases h : k ≤ (tl z).length
  · rw [Nat.min_eq_left h]
    exact List.take_of_length_le (by rw [List.length_drop]; omega)
  · rw [Nat.min_eq_right (by omega), List.drop_length, List.take_nil, List.drop_eq_nil_of_le (by omega)]
theorem str_is {z y : Str} {l : List Nat} (h : tl y = l) : (V.str z = V.str y) ↔ tl z = l := by
  constructor
  · intro e
    rw [V.str.inj e]
    exact h
  · intro e
    rw [TL.ext_tl (e.trans h.symm)]
end K44

namespace K44
open PySem L2
open TL (tl numL)

/-! ## The text by places -/
def topS (i : Nat) : Stmt := PySem.Challenge.pw_wirefloor_k44_whole_numbers.main.body.getD i (.Pass ⟨0, 0, 0, 0⟩)
abbrev sNum : Stmt := topS 2
abbrev sIn : Stmt := topS 4
abbrev sWord : Stmt := topS 5
abbrev sWhole : Stmt := topS 7
abbrev sCell : Stmt := topS 8
abbrev sNumber : Stmt := topS 9
abbrev sStrange : Stmt := topS 10
abbrev sBad : Stmt := topS 11
abbrev sGood : Stmt := topS 12
abbrev sLaw : Stmt := topS 13
theorem scNum : FnScope ["word", "sign"] ["word"] (defScope sNum) := ⟨rfl, rfl, rfl, by decide +kernel, rfl, by decide +kernel, by decide +kernel⟩
theorem scIn : FnScope ["word", "number"] ["word"] (defScope sIn) := ⟨rfl, rfl, rfl, by decide +kernel, rfl, by decide +kernel, by decide +kernel⟩
theorem scWord : FnScope ["number"] ["number"] (defScope sWord) := ⟨rfl, rfl, rfl, by decide +kernel, rfl, by decide +kernel, by decide +kernel⟩
theorem scWhole : FnScope ["found"] ["found"] (defScope sWhole) := ⟨rfl, rfl, rfl, by decide +kernel, rfl, by decide +kernel, by decide +kernel⟩
theorem scCell : FnScope ["script", "k"] ["script", "k"] (defScope sCell) := ⟨rfl, rfl, rfl, by decide +kernel, rfl, by decide +kernel, by decide +kernel⟩
theorem scNumber : FnScope ["cell", "way"] ["cell", "way"] (defScope sNumber) := ⟨rfl, rfl, rfl, by decide +kernel, rfl, by decide +kernel, by decide +kernel⟩
theorem scStrange : FnScope ["cell", "some"] ["cell"] (defScope sStrange) := ⟨rfl, rfl, rfl, by decide +kernel, rfl, by decide +kernel, by decide +kernel⟩
theorem scBad : FnScope ["number", "kind", "place", "word", "at"] ["number", "kind", "place"] (defScope sBad) := ⟨rfl, rfl, rfl, by decide +kernel, rfl, by decide +kernel, by decide +kernel⟩
theorem scGood : FnScope ["number", "kind", "place", "word", "due", "found"] ["number", "kind", "place"] (defScope sGood) := ⟨rfl, rfl, rfl, by decide +kernel, rfl, by decide +kernel, by decide +kernel⟩
theorem scLaw : FnScope ["script", "k", "way", "number", "kind", "place", "heard", "word"] ["script"] (defScope sLaw) := ⟨rfl, rfl, rfl, by decide +kernel, rfl, by decide +kernel, by decide +kernel⟩

/-! ## What the module's names hold -/
structure Names (mg : Str → Option Value) : Prop where
  len : mg "len" = none
  int : mg "int" = none
  str : mg "str" = none
  bool : mg "bool" = none
  isi : mg "isinstance" = none
  range : mg "range" = none
  fig : ∃ t, mg "FIGURES" = some (.str "0123456789" t)

theorem same_upd {H : Hp} {p : Addr} {o : HO} (h : H p = none) : Same H (upd H p o) := fun b x e => by
  rw [upd_ne (ne_of_none e h)]
  exact e
def optV : Option Int → V
  | none => .non
  | some n => .int n

section
variable {P : Program} {w : World} {K : PySem.W.Frag} {mg : Str → Option Value} {base : Heap}

/-! ### number_in -/
def spNum : Sp := fun vs H Q _ => ∃ z : Str, vs = [.str z] ∧ z.length ≤ 1000 ∧ Q (optV (numIn (tl z))) H
theorem ok_num {f : Addr} {fd : FuncData} (F : Fun K "number_in" "number_in" sNum f fd) (T : Names mg) : FnOk P w K mg base CX0 1 f fd ["word"] spNum := by
  refine F.ok scNum (fun vs H Q E h => ?_) (fun cdv A outer s H vs Q E hr h => ?_)
  · obtain ⟨z, rfl, _⟩ := h
    rfl
  · obtain ⟨z, rfl, hz, q⟩ := h
    obtain ⟨tf, hfig⟩ := T.fig
    have hline : z.length ≤ sizeLine := Nat.le_of_lt (small1000 hz)
    refine ⟨_, pss_cons (ps_if (PW.pt (pw_or (pt_cmpR op_eq (pv 0) pe_str (nomark _)) (pw_or1 (pt_cmpR op_gt (pe_callB call_len_str (by rfl) T.len PySem.boot_len (pa_cons (pv 0) pa_nil)) pe_int (nomark _))))) (pss_one (ps_ret pe_non)) pss_nil)
      (pss_cons (ps_for PassesOwn.never rfl (pi_str (pv 0)) (pg_name (i := 1) scNum.nd rfl (Or.inl rfl))
        (pss_one (ps_if (pt_cmpR op_notIn_sign (pv 1) (pe_glob (v := .str "0123456789") rfl hfig ⟨_, rfl⟩) rfl) (pss_one (ps_ret pe_non)) pss_nil)))
      (pss_cons (ps_if (PW.pt (pw_and (pt_cmpR op_eq (pe_ix ix_str (pv 0) pe_int (fun _ _ => rfl)) pe_str (nomark _)) (pw_and1 (pt_cmpR op_ne (pv 0) pe_str (nomark _))))) (pss_one (ps_ret pe_non)) pss_nil)
      (pss_one (ps_ret (pe_callTy call_int_str (by rfl) T.int (by decide +kernel) (pa_cons (pv 0) pa_nil)))))), ?_⟩
    have q0 : numIn (tl z) = none → Q V.non H := fun e => by
      rw [e] at q
      exact q
    -- the text is empty, or too long
    refine ⟨_, rfl, rfl, _, rfl, ite2 (fun e => iteT ?_) (fun e => ?_)⟩
    · have e1 : tl z = [] := (str_is (show tl (Str.ofString "") = [] by decide +kernel)).mp (of_decide_eq_true e)
      exact q0 (by rw [e1]; exact numIn_nil)
    have hne : tl z ≠ [] := fun e1 => e (decide_eq_true ((str_is (show tl (Str.ofString "") = [] by decide +kernel)).mpr e1))
    refine ⟨_, rfl, z, rfl, hline, _, _, rfl, rfl, _, rfl, ite2 (fun e2 => ?_) (fun e2 => ?_)⟩
    · have e3 : (18 : Int) < (z.length : Int) := of_decide_eq_true e2
      rw [TL.len_tl z] at e3
      exact q0 (numIn_long (by omega))
    have hle : ¬ 18 < (tl z).length := fun e3 => e2 (decide_eq_true (by
      show (18 : Int) < (z.length : Int)
      rw [TL.len_tl z]
      omega))
    -- sign by sign
    have hfigs : ∀ c : Nat, (c ∈ (Str.ofString "0123456789").cps.toList) ↔ isDig c = true := fun c => by
      rw [show (Str.ofString "0123456789").cps.toList = [48, 49, 50, 51, 52, 53, 54, 55, 56, 57] by decide +kernel]
      unfold isDig
      rw [decide_eq_true_iff]
      simp only [List.mem_cons, List.not_mem_nil, or_false]
      omega
    refine ⟨_, rfl, z, rfl, for_it walk_str (fun i σ H' => H' = H ∧ (∀ (j : Nat) (c : Nat), j < i → z.cps[j]? = some c → isDig c = true) ∧ ∃ y, σ = [some (.str z), y])
      ⟨rfl, fun j c hj => absurd hj (Nat.not_lt_zero j), none, rfl⟩ (fun _ _ _ _ _ => trivial) ?_ ?_⟩
    · rintro i x σ H1 H2 hi ⟨rfl, hd, y, rfl⟩ ⟨rfl, c, hc, rfl⟩
      refine ⟨_, rfl, c, _, rfl, rfl, _, rfl, ite2 (fun e3 => ?_) (fun e3 => ?_)⟩
      · refine q0 (numIn_bad (c := c) ?_ ?_)
        · rw [Array.getElem?_eq_some_iff] at hc
          obtain ⟨h1, h2⟩ := hc
          rw [← h2]
          exact Array.getElem_mem_toList h1
        · cases hb : isDig c with
          | false => rfl
          | true =>
            rw [decide_eq_true ((hfigs c).mpr hb)] at e3
            cases e3
      · have hb : isDig c = true := by
          by_cases hm : c ∈ (Str.ofString "0123456789").cps.toList
          · exact (hfigs c).mp hm
          · rw [decide_eq_false hm] at e3
            exact absurd rfl e3
        refine ⟨rfl, fun j c' hj hc' => ?_, _, rfl⟩
        by_cases hji : j = i
        · subst hji
          rw [hc] at hc'
          rw [← Option.some.inj hc']
          exact hb
        · exact hd j c' (by omega) hc'
    · rintro σ H1 ⟨rfl, hd, y, rfl⟩
      have hall : ∀ c ∈ tl z, isDig c = true := fun c hc => by
        obtain ⟨j, hj, e3⟩ := List.mem_iff_getElem.mp hc
        refine hd j c (by rw [Array.length_toList] at hj; exact hj) ?_
        rw [← e3, ← Array.getElem?_toList, List.getElem?_eq_getElem hj]
      have hall2 : (tl z).all isDig = true := List.all_eq_true.mpr hall
      obtain ⟨c, r, hcr⟩ : ∃ c r, tl z = c :: r := by
        cases hz' : tl z with
        | nil => exact absurd hz' hne
        | cons c r => exact ⟨c, r, rfl⟩
      have hat : atI z.cps.toList (0 : Int) = some c := atI_nat (j := 0) (by
        show (tl z)[0]? = some c
        rw [hcr]
        rfl)
      -- the first figure
      have last : ¬ ((tl z).head? = some 48 ∧ tl z ≠ [48]) → Q (.int ((NumText.digitsVal (tl z) : Nat) : Int)) H1 := fun hh => by
        rw [numIn_some hne hle hall2 hh] at q
        exact q
      have hint : PySem.intText? z = some ((NumText.digitsVal (tl z) : Nat) : Int) := intText_digits (fun c hc => of_decide_eq_true (hall c hc)) hne (by omega)
      have hsh : z.length ≤ 640 := by
        rw [TL.len_tl z]
        omega
      have h0 : tl (Str.ofString "0") = [48] := by decide +kernel
      have hz0 : (V.str ⟨#[c]⟩ = V.str (Str.ofString "0")) ↔ c = 48 := (str_is h0).trans ⟨fun e3 => (List.cons.inj e3).1, fun e3 => by rw [e3]⟩
      refine ⟨_, rfl, z, 0, c, rfl, rfl, hline, hat, rfl, _, rfl, ite2 (fun e3 => ?_) (fun e3 => iteF ?_)⟩
      · have ec : c = 48 := hz0.mp (of_decide_eq_true e3)
        refine ⟨_, rfl, rfl, _, rfl, ite2 (fun e4 => ?_) (fun e4 => ?_)⟩
        · refine q0 (numIn_zero (by rw [hcr, ec]; rfl) fun e5 => ?_)
          rw [decide_eq_true ((str_is h0).mpr e5)] at e4
          cases e4
        · refine ⟨_, rfl, z, _, rfl, hint, hsh, last fun e5 => ?_⟩
          refine e4 ?_
          rw [decide_eq_false fun e6 => e5.2 ((str_is h0).mp e6)]
          rfl
      · refine ⟨_, rfl, z, _, rfl, hint, hsh, last fun e5 => ?_⟩
        rw [hcr] at e5
        exact e3 (decide_eq_true (hz0.mpr (Option.some.inj e5.1)))
end
end K44

namespace K44
open PySem L2
open TL (tl numL)
section
variable {P : Program} {w : World} {K : PySem.W.Frag} {mg : Str → Option Value} {base : Heap}

/-! ### whole_in -/
def spIn : Sp := fun vs H Q _ => ∃ z : Str, vs = [.str z] ∧ z.length ≤ 1000 ∧ Q (optV (wholeIn (tl z))) H
theorem minus1 : tl (Str.ofString "-") = [45] := by decide +kernel
theorem ok_in {f fN : Addr} {fd fdN : FuncData} (F : Fun K "whole_in" "whole_in" sIn f fd) (FN : Fun K "number_in" "number_in" sNum fN fdN) (bN : Binds K fdN ["word"] []) (gN : mg "number_in" = some (.ref fN)) (T : Names mg) :
    FnOk P w K mg base CX0 2 f fd ["word"] spIn := by
  have GN : FnOk P w K mg base CX0 1 fN fdN ["word"] spNum := ok_num FN T
  refine F.ok scIn (fun vs H Q E h => ?_) (fun cdv A outer s H vs Q E hr h => ?_)
  · obtain ⟨z, rfl, _⟩ := h
    rfl
  · obtain ⟨z, rfl, hz, q⟩ := h
    have hline : z.length ≤ sizeLine := Nat.le_of_lt (small1000 hz)
    refine ⟨_, pss_cons (ps_if (pt_cmpR op_ne (pe_slice sl_str (pv 0) po_none (po_some pe_int)) pe_str (nomark _)) (pss_one (ps_ret (pe_call GN hr (by rfl) gN FN.kp bN .nil pass0 (pa_cons (pv 0) pa_nil)))) pss_nil)
      (pss_cons (ps_set (i := 1) scIn.nd rfl (Or.inl rfl) (pe_call GN hr (by rfl) gN FN.kp bN .nil pass0 (pa_cons (pe_slice sl_str (pv 0) (po_some pe_int) po_none) pa_nil)))
      (pss_cons (ps_if (PW.pt (pw_or (pt_cmpR op_isN (pv 1) pe_non (nomark _)) (pw_or1 (pt_cmpR op_eq (pv 1) pe_int (nomark _))))) (pss_one (ps_ret pe_non)) pss_nil)
      (pss_one (ps_ret (pe_un un_neg (pv 1)))))), ?_⟩
    have cut1 : tl (cutS z none (some (1 : Int))) = (tl z).take 1 := tl_to z 1
    have cut2 : tl (cutS z (some (1 : Int)) none) = (tl z).drop 1 := tl_from z 1
    refine ⟨_, rfl, 1, rfl, z, rfl, hline, rfl, _, rfl, ite2 (fun e => ?_) (fun e => ?_)⟩
    · have ht : (tl z).take 1 ≠ [45] := fun e1 => by
        rw [decide_eq_true ((str_is minus1).mpr (cut1.trans e1))] at e
        cases e
      rw [wholeIn_pos ht] at q
      exact ⟨_, rfl, z, rfl, hz, q⟩
    · have ht : (tl z).take 1 = [45] := by
        by_cases e1 : (tl z).take 1 = [45]
        · exact e1
        · refine absurd ?_ e
          rw [decide_eq_false fun e2 => e1 (cut1.symm.trans ((str_is minus1).mp e2))]
          rfl
      have hw : wholeIn (tl z) = negIn (numIn ((tl z).drop 1)) := if_pos ht
      rw [hw] at q
      refine ⟨_, rfl, 1, rfl, z, rfl, hline, cutS z (some (1 : Int)) none, rfl, Nat.le_trans (cutS_length z _ _) hz, ?_⟩
      rw [cut2]
      cases hn : numIn ((tl z).drop 1) with
      | none =>
        rw [hn] at q
        exact ⟨_, rfl, rfl, true, rfl, iteT (iteT q)⟩
      | some n =>
        rw [hn] at q
        refine ⟨_, rfl, rfl, false, rfl, iteF ⟨_, rfl, rfl, _, rfl, ite2 (fun e2 => ?_) (fun e2 => ?_)⟩⟩
        · have e3 : n = 0 := V.int.inj (of_decide_eq_true e2)
          have q2 : Q (optV (if n = 0 then none else some (-n))) H := q
          rw [if_pos e3] at q2
          exact q2
        · have q2 : Q (optV (if n = 0 then none else some (-n))) H := q
          rw [if_neg fun e3 => e2 (decide_eq_true (by rw [e3]; rfl))] at q2
          exact ⟨_, rfl, n, rfl, q2⟩

/-! ### whole_word -/
def spWord : Sp := fun vs H Q _ => ∃ i : Int, vs = [.int i] ∧ i.natAbs < 2 ^ 64 ∧ Q (.str (toString i)) H
theorem ok_word {f : Addr} {fd : FuncData} (F : Fun K "whole_word" "whole_word" sWord f fd) (T : Names mg) : FnOk P w K mg base CX0 1 f fd ["number"] spWord := by
  refine F.ok scWord (fun vs H Q E h => ?_) (fun cdv A outer s H vs Q E hr h => ?_)
  · obtain ⟨i, rfl, _⟩ := h
    rfl
  · obtain ⟨i, rfl, hi, q⟩ := h
    refine ⟨_, pss_one (ps_ret (pe_callTy call_str_int (by rfl) T.str (by decide +kernel) (pa_cons (pv 0) pa_nil))), ?_⟩
    exact ⟨_, rfl, i, rfl, log2_small hi, q⟩

/-! ### is it a whole number -/
def spWhole : Sp := fun vs H Q _ => ∃ o : Option Int, vs = [optV o] ∧ Q (.bl o.isSome) H
theorem ok_whole {f : Addr} {fd : FuncData} (F : Fun K "_law_whole" "_law_whole" sWhole f fd) (T : Names mg) : FnOk P w K mg base CX0 1 f fd ["found"] spWhole := by
  refine F.ok scWhole (fun vs H Q E h => ?_) (fun cdv A outer s H vs Q E hr h => ?_)
  · obtain ⟨o, rfl, _⟩ := h
    rfl
  · obtain ⟨o, rfl, q⟩ := h
    refine ⟨_, pss_one (ps_ret (pe_and (pe_callB call_isi (by rfl) T.isi (by decide +kernel) (pa_cons (pv 0) (pa_cons (pe_bltn (v := .ty "int") (by rfl) T.int PyProof.Rows.boot_int rfl) pa_nil)))
      (pe_one (pe_not (pe_callB call_isi (by rfl) T.isi (by decide +kernel) (pa_cons (pv 0) (pa_cons (pe_bltn (v := .ty "bool") (by rfl) T.bool PyProof.Rows.boot_bool rfl) pa_nil))))))), ?_⟩
    cases o with
    | none => exact ⟨_, rfl, .non, .ty "int", .type "NoneType", .type "int", false, rfl, .ty "int", .base .non, kit_ty (by decide +kernel), false, rfl, iteF q⟩
    | some n => exact ⟨_, rfl, .int n, .ty "int", .type "int", .type "int", true, rfl, .ty "int", .base (.int n), kit_ty (by decide +kernel), true, rfl, iteT ⟨_, rfl, .int n, .ty "bool", .type "int", .type "bool", false, rfl, .ty "bool", .base (.int n), kit_ty (by decide +kernel), false, rfl, q⟩⟩

/-! ### a cell of the script -/
def spCellAt (K : PySem.W.Frag) : Sp := fun vs H Q _ => ∃ (a : Addr) (ns : List Int) (j : Nat), vs = [.ref a, .int (j : Int)] ∧ SqL K H a (ns.map V.int) ∧ ∀ v : Int, Q (.int v) H
theorem ok_cell {f : Addr} {fd : FuncData} (F : Fun K "_law_cell_at" "_law_cell_at" sCell f fd) (T : Names mg) : FnOk P w K mg base CX0 1 f fd ["script", "k"] (spCellAt K) := by
  refine F.ok scCell (fun vs H Q E h => ?_) (fun cdv A outer s H vs Q E hr h => ?_)
  · obtain ⟨a, ns, j, rfl, _⟩ := h
    rfl
  · obtain ⟨a, ns, j, rfl, hS, q⟩ := h
    refine ⟨_, pss_cons (ps_if (pt_cmpR op_lt (pv 1) (pe_callB call_len_seq (by rfl) T.len PySem.boot_len (pa_cons (pv 0) pa_nil)) (nomark _)) (pss_one (ps_ret (pe_ix ix_list (pv 0) (pv 1) (fun _ _ => rfl)))) pss_nil)
      (pss_one (ps_ret pe_int)), ?_⟩
    refine ⟨_, rfl, _, rfl, a, _, rfl, .inl hS, _, _, rfl, rfl, _, rfl, ite2 (fun e => ?_) (fun e => ?_)⟩
    · have e1 : (j : Int) < ((ns.map V.int).length : Int) := of_decide_eq_true e
      rw [List.length_map] at e1
      have hj : j < ns.length := by omega
      exact ⟨_, rfl, _, rfl, a, _, _, .int ns[j], rfl, rfl, hS, atI_nat (by rw [List.getElem?_map, List.getElem?_eq_getElem hj]; rfl), q _⟩
    · exact q 0

/-! ### a number of the law's -/
def spNumber : Sp := fun vs H Q _ => ∃ c y : Int, vs = [.int c, .int y] ∧ ∀ n : Nat, n < 10 ^ 18 → Q (.int (n : Int)) H
theorem ten18 : (10 : Int) ^ (18 : Int).toNat = 1000000000000000000 := by decide
theorem ok_number {f : Addr} {fd : FuncData} (F : Fun K "_law_number" "_law_number" sNumber f fd) : FnOk P w K mg base CX0 1 f fd ["cell", "way"] spNumber := by
  refine F.ok scNumber (fun vs H Q E h => ?_) (fun cdv A outer s H vs Q E hr h => ?_)
  · obtain ⟨c, y, rfl, _⟩ := h
    rfl
  · obtain ⟨c, y, rfl, q⟩ := h
    refine ⟨_, pss_cons (ps_if (pt_cmpR op_eq (pe_op op_mod (pv 1) pe_int) pe_int (nomark _)) (pss_one (ps_ret (pe_op op_mod (pv 0) pe_int))) pss_nil)
      (pss_cons (ps_if (pt_cmpR op_eq (pe_op op_mod (pv 1) pe_int) pe_int (nomark _)) (pss_one (ps_ret (pe_op op_mod (pv 0) (pe_op op_pow pe_int pe_int)))) pss_nil)
      (pss_one (ps_ret (pe_op op_mod (pe_op op_mul (pe_op op_mod (pv 0) pe_int) pe_int) (pe_op op_pow pe_int pe_int))))), ?_⟩
    have q2 : ∀ i : Int, 0 ≤ i → i < 1000000000000000000 → Q (.int i) H := fun i h0 h1 => by
      have z := q i.toNat (by omega)
      rw [Int.toNat_of_nonneg h0] at z
      exact z
    have hpow : CPow 10 18 := ⟨by decide, by decide, by decide⟩
    refine ⟨_, rfl, _, _, rfl, rfl, (by show (0 : Int) < 3; decide), rfl, _, rfl, ite2 (fun _ => ?_) (fun _ => ?_)⟩
    · exact ⟨_, rfl, _, _, rfl, rfl, (by show (0 : Int) < 12; decide), q2 _ (Int.emod_nonneg _ (by decide)) (Int.lt_trans (Int.emod_lt_of_pos _ (by decide)) (by decide))⟩
    · refine ⟨_, rfl, _, _, rfl, rfl, (by show (0 : Int) < 3; decide), rfl, _, rfl, ite2 (fun _ => ?_) (fun _ => ?_)⟩
      · refine ⟨_, rfl, _, _, rfl, rfl, hpow, c, _, rfl, rfl, ?_, ?_⟩
        · rw [ten18]
          show (0 : Int) < 1000000000000000000
          decide
        · rw [ten18]
          exact q2 _ (Int.emod_nonneg _ (by decide)) (Int.emod_lt_of_pos _ (by decide))
      · refine ⟨_, rfl, _, _, rfl, rfl, (by show (0 : Int) < 10007; decide), _, _, rfl, rfl, .inr ⟨by decide, by decide⟩, _, _, rfl, rfl, hpow, _, _, rfl, rfl, ?_, ?_⟩
        · rw [ten18]
          show (0 : Int) < 1000000000000000000
          decide
        · rw [ten18]
          exact q2 _ (Int.emod_nonneg _ (by decide)) (Int.emod_lt_of_pos _ (by decide))

/-! ### a sign that is none of a number's -/
def spStrange : Sp := fun vs H Q _ => ∃ c : Int, vs = [.int c] ∧ ∀ d : Nat, isDig d = false → d ≠ 45 → Q (.str ⟨#[d]⟩) H
def odd (d : Nat) : Bool := !isDig d && decide (d ≠ 45)
theorem odd_at {z : Str} (c : Int) (h0 : 0 < z.length) (h : z.cps.toList.all odd = true) : ∃ d, atI z.cps.toList (c % (z.length : Int)) = some d ∧ isDig d = false ∧ d ≠ 45 := by
  have hl : z.cps.toList.length = z.length := Array.length_toList
  have h1 : 0 ≤ c % (z.length : Int) := Int.emod_nonneg c (by omega)
  have h2 : c % (z.length : Int) < (z.length : Int) := Int.emod_lt_of_pos c (by omega)
  obtain ⟨j, hj⟩ : ∃ j : Nat, (j : Int) = c % (z.length : Int) := ⟨(c % (z.length : Int)).toNat, Int.toNat_of_nonneg h1⟩
  have hlt : j < z.cps.toList.length := by omega
  refine ⟨z.cps.toList[j], ?_, ?_⟩
  · rw [← hj]
    exact atI_nat (List.getElem?_eq_getElem hlt)
  · have ho := List.all_eq_true.mp h _ (List.getElem_mem hlt)
    unfold odd at ho
    rw [Bool.and_eq_true, Bool.not_eq_true', decide_eq_true_iff] at ho
    exact ho
def strangeText : Str := match defBody sStrange with
  | .Assign _ (.Constant (.str x) _ _) _ :: _ => x
  | _ => Str.empty
theorem ok_strange {f : Addr} {fd : FuncData} (F : Fun K "_law_strange" "_law_strange" sStrange f fd) (T : Names mg) : FnOk P w K mg base CX0 1 f fd ["cell"] spStrange := by
  refine F.ok scStrange (fun vs H Q E h => ?_) (fun cdv A outer s H vs Q E hr h => ?_)
  · obtain ⟨c, rfl, _⟩ := h
    rfl
  · obtain ⟨c, rfl, q⟩ := h
    refine ⟨_, pss_cons (ps_set (i := 1) scStrange.nd rfl (Or.inl rfl) pe_str)
      (pss_one (ps_ret (pe_ix ix_str (pv 1) (pe_op op_mod (pv 0) (pe_callB call_len_str (by rfl) T.len PySem.boot_len (pa_cons (pv 1) pa_nil))) (fun _ _ => rfl)))), ?_⟩
    refine ⟨_, rfl, _, rfl, _, rfl, _, rfl, ?_, c, _, rfl, rfl, ?_, ?_⟩
    · decide +kernel
    · show (0 : Int) < (strangeText.length : Int)
      decide +kernel
    · obtain ⟨d, h1, h2, h3⟩ := odd_at (z := strangeText) c (by decide +kernel) (by decide +kernel)
      exact ⟨_, _, d, rfl, rfl, by decide +kernel, h1, q d h2 h3⟩
end
end K44

namespace K44
open PySem L2
open TL (tl numL)
theorem app_len (x y : Str) : (x ++ y).length = x.length + y.length := by
  rw [TL.len_tl, TL.tl_append, List.length_append, ← TL.len_tl, ← TL.len_tl]
theorem pick {a b : V} (i : Int) : atI [a, b] (i % 2) = some a ∨ atI [a, b] (i % 2) = some b := by
  have h1 : 0 ≤ i % 2 := Int.emod_nonneg i (by decide)
  have h2 : i % 2 < 2 := Int.emod_lt_of_pos i (by decide)
  by_cases h : i % 2 = 0
  · rw [h]
    exact .inl (atI_nat (j := 0) rfl)
  · have h3 : i % 2 = 1 := by omega
    rw [h3]
    exact .inr (atI_nat (j := 1) rfl)
theorem tl_none : tl (Str.ofString "") = [] := by decide +kernel
theorem len_none : (Str.ofString "").length = 0 := by decide +kernel
theorem len_minus : (Str.ofString "-").length = 1 := by decide +kernel
theorem fits {n : Nat} (h : n ≤ 1000) : n ≤ sizeLine := Nat.le_of_lt (small1000 h)
theorem place_of {p : Int} {m : Nat} (hm : 0 < m) : ∃ k : Nat, p % (m : Int) = (k : Int) ∧ k < m := by
  have h1 : 0 ≤ p % (m : Int) := Int.emod_nonneg p (by omega)
  have h2 : p % (m : Int) < (m : Int) := Int.emod_lt_of_pos p (by omega)
  exact ⟨(p % (m : Int)).toNat, (Int.toNat_of_nonneg h1).symm, by omega⟩
section
variable {P : Program} {w : World} {K : PySem.W.Frag} {mg : Str → Option Value} {base : Heap}

/-! ### a word that writes no number -/
def spBad : Sp := fun vs H Q _ => ∃ (n : Nat) (k p : Int), vs = [.int (n : Int), .int k, .int p] ∧ n < 10 ^ 18 ∧ ∀ (z : Str) (H' : Hp), Same H H' → z.length ≤ 1000 → wholeIn (tl z) = none → Q (.str z) H'
theorem ok_bad {f fS : Addr} {fd fdS : FuncData} (F : Fun K "_law_bad_word" "_law_bad_word" sBad f fd) (FS : Fun K "_law_strange" "_law_strange" sStrange fS fdS) (bS : Binds K fdS ["cell"] []) (gS : mg "_law_strange" = some (.ref fS)) (T : Names mg) :
    FnOk P w K mg base CX0 2 f fd ["number", "kind", "place"] spBad := by
  have GS : FnOk P w K mg base CX0 1 fS fdS ["cell"] spStrange := ok_strange FS T
  refine F.ok scBad (fun vs H Q E h => ?_) (fun cdv A outer s H vs Q E hr h => ?_)
  · obtain ⟨n, k, p, rfl, _⟩ := h
    rfl
  · obtain ⟨n, k, p, rfl, hn, q⟩ := h
    refine ⟨_, pss_cons (ps_set (i := 3) scBad.nd rfl (Or.inl rfl) (pe_callTy call_str_int (by rfl) T.str (by decide +kernel) (pa_cons (pv 0) pa_nil)))
      (pss_cons (ps_if (pt_cmpR op_eq (pv 1) pe_int (nomark _)) (pss_one (ps_ret (pe_op op_add_str pe_str (pv 3)))) pss_nil)
      (pss_cons (ps_if (pt_cmpR op_eq (pv 1) pe_int (nomark _)) (pss_one (ps_ret (pe_op op_add_str pe_str (pv 3)))) pss_nil)
      (pss_cons (ps_if (pt_cmpR op_eq (pv 1) pe_int (nomark _)) (pss_one (ps_ret (pe_op op_add_str pe_str (pv 3)))) pss_nil)
      (pss_cons (ps_if (pt_cmpR op_eq (pv 1) pe_int (nomark _))
        (pss_one (ps_ret (pe_op op_add_str (pe_ix ix_list (pe_lst (pa_cons pe_str (pa_cons pe_str pa_nil))) (pe_op op_mod (pv 2) pe_int) (fun _ _ => rfl))
          (pe_callTy call_str_int (by rfl) T.str (by decide +kernel) (pa_cons (pe_op op_add (pe_op op_pow pe_int pe_int) (pv 0)) pa_nil))))) pss_nil)
      (pss_cons (ps_if (pt_cmpR op_eq (pv 1) pe_int (nomark _))
        (pss_cons (ps_set (i := 4) scBad.nd rfl (Or.inl rfl) (pe_op op_mod (pv 2) (pe_op op_add (pe_callB call_len_str (by rfl) T.len PySem.boot_len (pa_cons (pv 3) pa_nil)) pe_int)))
          (pss_one (ps_ret (pe_op op_add_str (pe_op op_add_str (pe_slice sl_str (pv 3) po_none (po_some (pv 4))) (pe_call GS hr (by rfl) gS FS.kp bS .nil pass0 (pa_cons (pe_op op_fdiv (pv 2) pe_int) pa_nil)))
            (pe_slice sl_str (pv 3) (po_some (pv 4)) po_none))))) pss_nil)
      (pss_cons (ps_if (pt_cmpR op_eq (pv 1) pe_int (nomark _))
        (pss_cons (ps_set (i := 4) scBad.nd rfl (Or.inl rfl) (pe_op op_add pe_int (pe_op op_mod (pv 2) (pe_callB call_len_str (by rfl) T.len PySem.boot_len (pa_cons (pv 3) pa_nil)))))
          (pss_one (ps_ret (pe_op op_add_str (pe_op op_add_str (pe_slice sl_str (pv 3) po_none (po_some (pv 4))) pe_str) (pe_slice sl_str (pv 3) (po_some (pv 4)) po_none))))) pss_nil)
      (pss_one (ps_ret (pe_ix ix_list (pe_lst (pa_cons pe_str (pa_cons pe_str pa_nil))) (pe_op op_mod (pv 2) pe_int) (fun _ _ => rfl)))))))))), ?_⟩
    have hX : tl (Str.ofString (toString (n : Int))) = numL n := TL.tl_num n
    have hXl : (Str.ofString (toString (n : Int))).length ≤ 20 := num_len (by omega)
    have hX0 : 0 < (Str.ofString (toString (n : Int))).length := by
      rw [TL.len_tl, hX]
      exact List.length_pos_iff.mpr (TL.numL_ne n)
    refine ⟨_, rfl, (n : Int), rfl, log2_small (by omega), ?_⟩
    revert hX hXl hX0
    generalize Str.ofString (toString (n : Int)) = X
    intro hX hXl hX0
    have ap : ∀ (y : Str) (l : List Nat), tl y = l → tl (y ++ X) = l ++ numL n := fun y l e => by rw [TL.tl_append, e, hX]
    have front : ∀ (y : Str) (l : List Nat), tl y = l → l.length ≤ 2 → wholeIn (l ++ numL n) = none → y.length + X.length ≤ sizeLine ∧ Q (.str (y ++ X)) H := fun y l e hl hb => by
      have hy : y.length ≤ 2 := by rw [TL.len_tl, e]; exact hl
      refine ⟨fits (by omega), q _ H (Same.refl H) (by rw [app_len]; omega) ?_⟩
      rw [ap y l e]
      exact hb
    -- a sign or two ahead
    refine ⟨_, rfl, rfl, _, rfl, ite2 (fun _ => ⟨_, rfl, _, X, rfl, rfl, front _ [45, 48] (by decide +kernel) (by decide) (bad3 n)⟩) (fun _ => ?_)⟩
    refine ⟨_, rfl, rfl, _, rfl, ite2 (fun _ => ⟨_, rfl, _, X, rfl, rfl, front _ [45, 45] (by decide +kernel) (by decide) (bad4 n)⟩) (fun _ => ?_)⟩
    refine ⟨_, rfl, rfl, _, rfl, ite2 (fun _ => ⟨_, rfl, _, X, rfl, rfl, front _ [43] (by decide +kernel) (by decide) (bad5 n)⟩) (fun _ => ?_)⟩
    -- nineteen figures
    refine ⟨_, rfl, rfl, _, rfl, ite2 (fun _ => ?_) (fun _ => ?_)⟩
    · refine ⟨fits (by show 2 ≤ 1000; decide), fun d hd => ⟨_, rfl, _, _, rfl, rfl, (by show (0 : Int) < 2; decide), ?_⟩⟩
      have hpow : CPow 10 18 := ⟨by decide, by decide, by decide⟩
      have hm : (10 : Int) ^ (18 : Int).toNat + (n : Int) = ((1000000000000000000 + n : Nat) : Int) := by
        rw [ten18]
        omega
      have hY : tl (Str.ofString (toString ((1000000000000000000 + n : Nat) : Int))) = numL (1000000000000000000 + n) := TL.tl_num _
      have hYl : (Str.ofString (toString ((1000000000000000000 + n : Nat) : Int))).length ≤ 20 := num_len (by omega)
      have go : ∀ (y : Str), y.length ≤ 1 → wholeIn (tl y ++ numL (1000000000000000000 + n)) = none → atI [V.str (Str.ofString "-"), V.str (Str.ofString "")] (p % 2) = some (.str y) →
          rIxL K (.ref d) (.int (p % 2)) (upd H d (.lst [V.str (Str.ofString "-"), V.str (Str.ofString "")]))
            (fun x H1 => tOp (rI CPow fun i j => V.int (i ^ j.toNat)) (tC (.int 10)) (tC (.int 18)) [some (.int (n : Int)), some (.int k), some (.int p), some (.str X), none] H1 fun u H2 =>
              ∃ v, (some (some (V.int (n : Int))) : Option (Option V)) = some (some v) ∧ ∃ i j, u = .int i ∧ v = .int j ∧ ∃ i2, [V.int (i + j)] = [.int i2] ∧ i2.natAbs.log2 < 1920 ∧
                ∃ i3 j3, x = .str i3 ∧ V.str (Str.ofString (toString i2)) = .str j3 ∧ i3.length + j3.length ≤ sizeLine ∧ Q (.str (i3 ++ j3)) H2) := fun y hy hb hat =>
        ⟨d, _, _, _, rfl, rfl, SqL.of upd_same, hat, _, _, rfl, rfl, hpow, _, rfl, _, _, rfl, rfl, _, congrArg (fun t => [V.int t]) hm, log2_small (by omega), _, _, rfl, rfl, fits (by omega),
          q _ _ (same_upd hd) (by rw [app_len]; omega) (by rw [TL.tl_append, hY]; exact hb)⟩
      rcases pick (a := V.str (Str.ofString "-")) (b := V.str (Str.ofString "")) p with e | e
      · exact go _ (by decide +kernel) (by rw [minus1]; exact bad6m (by omega)) e
      · exact go _ (by decide +kernel) (by rw [tl_none]; exact bad6 (by omega)) e
    -- a strange sign put in
    refine ⟨_, rfl, rfl, _, rfl, ite2 (fun _ => ?_) (fun _ => ?_)⟩
    · obtain ⟨j, hj, hjl⟩ := place_of (p := p) (m := X.length + 1) (by omega)
      have hj2 : V.int (p % ((X.length : Int) + 1)) = V.int (j : Int) := congrArg V.int hj
      refine ⟨_, rfl, _, rfl, X, rfl, fits (by omega), _, _, rfl, rfl, _, _, rfl, rfl, (by show (0 : Int) < (X.length : Int) + 1; omega), ?_⟩
      refine ⟨_, rfl, _, rfl, (j : Int), hj2, X, rfl, fits (by omega), _, rfl, _, _, rfl, rfl, ⟨by decide, by decide⟩, _, rfl, fun d h1 h2 => ?_⟩
      have c1 := cutS_length X none (some (j : Int))
      have c2 := cutS_length X (some (j : Int)) none
      have d1 : (⟨#[d]⟩ : Str).length = 1 := rfl
      have l1 := app_len (cutS X none (some (j : Int))) ⟨#[d]⟩
      have l2 := app_len (cutS X none (some (j : Int)) ++ ⟨#[d]⟩) (cutS X (some (j : Int)) none)
      refine ⟨_, _, rfl, rfl, fits (by omega), _, rfl, _, rfl, (j : Int), hj2, X, rfl, fits (by omega), _, _, rfl, rfl, fits (by omega), q _ H (Same.refl H) (by omega) ?_⟩
      rw [TL.tl_append, TL.tl_append, tl_to, tl_from, hX]
      exact bad7 n j h1 h2
    -- a sign of its own behind the first figure
    refine ⟨_, rfl, rfl, _, rfl, ite2 (fun _ => ?_) (fun _ => ?_)⟩
    · obtain ⟨j, hj, hjl⟩ := place_of (p := p) (m := X.length) hX0
      have hj2 : V.int (1 + p % (X.length : Int)) = V.int ((j + 1 : Nat) : Int) := congrArg V.int (by omega)
      refine ⟨_, rfl, _, rfl, X, rfl, fits (by omega), _, _, rfl, rfl, (by show (0 : Int) < (X.length : Int); omega), _, _, rfl, rfl, ?_⟩
      refine ⟨_, rfl, _, rfl, ((j + 1 : Nat) : Int), hj2, X, rfl, fits (by omega), ?_⟩
      have c1 := cutS_length X none (some ((j + 1 : Nat) : Int))
      have c2 := cutS_length X (some ((j + 1 : Nat) : Int)) none
      have l1 := app_len (cutS X none (some ((j + 1 : Nat) : Int))) (Str.ofString "-")
      have l2 := app_len (cutS X none (some ((j + 1 : Nat) : Int)) ++ Str.ofString "-") (cutS X (some ((j + 1 : Nat) : Int)) none)
      have d1 := len_minus
      refine ⟨_, _, rfl, rfl, fits (by omega), _, rfl, _, rfl, ((j + 1 : Nat) : Int), hj2, X, rfl, fits (by omega), _, _, rfl, rfl, fits (by omega), q _ H (Same.refl H) (by omega) ?_⟩
      rw [TL.tl_append, TL.tl_append, tl_to, tl_from, hX, minus1]
      exact bad8 n j
    -- no figure at all
    · refine ⟨fits (by show 2 ≤ 1000; decide), fun d hd => ⟨_, rfl, _, _, rfl, rfl, (by show (0 : Int) < 2; decide), ?_⟩⟩
      rcases pick (a := V.str (Str.ofString "")) (b := V.str (Str.ofString "-")) p with e | e
      · exact ⟨d, _, _, _, rfl, rfl, SqL.of upd_same, e, q _ _ (same_upd hd) (by rw [len_none]; decide) (by rw [tl_none]; exact bad9)⟩
      · exact ⟨d, _, _, _, rfl, rfl, SqL.of upd_same, e, q _ _ (same_upd hd) (by rw [len_minus]; decide) (by rw [minus1]; exact bad9m)⟩
end
end K44

namespace K44
open PySem L2
open TL (tl numL)
section
variable {P : Program} {w : World} {K : PySem.W.Frag} {mg : Str → Option Value} {base : Heap}

/-! ### a word that writes a number, and -0 -/
def spGood : Sp := fun vs H Q _ => ∃ (n : Nat) (k p : Int), vs = [.int (n : Int), .int k, .int p] ∧ n < 10 ^ 18 ∧ Q (.bl true) H
theorem good2 {n : Nat} (h : n < 10 ^ 18) : wholeIn (tl (Str.ofString (toString ((n : Int) + 1 - 1000000000000000000)))) = some ((n : Int) + 1 - 1000000000000000000) ∧ (Str.ofString (toString ((n : Int) + 1 - 1000000000000000000))).length ≤ 1000 := by
  obtain ⟨m, hm⟩ : ∃ m : Nat, (n : Int) + 1 - 1000000000000000000 = -(m : Int) := ⟨999999999999999999 - n, by omega⟩
  have hm18 : m < 10 ^ 18 := by omega
  rw [hm]
  by_cases h0 : m = 0
  · subst h0
    have e : tl (Str.ofString (toString (-((0 : Nat) : Int)))) = numL 0 := TL.tl_num 0
    refine ⟨?_, ?_⟩
    · rw [e, good0 (by decide)]
      rfl
    · rw [TL.len_tl, e, num_zero]
      decide
  · have e := tl_neg h0
    refine ⟨?_, ?_⟩
    · rw [e]
      exact good1 hm18 h0
    · have hl : (numL m).length ≤ 18 := TL.numL_len (by decide) hm18
      rw [TL.len_tl, e, List.length_cons]
      omega
theorem ok_good {f fI fW fN : Addr} {fd fdI fdW fdN : FuncData} (F : Fun K "_law_good" "_law_good" sGood f fd) (FI : Fun K "whole_in" "whole_in" sIn fI fdI) (bI : Binds K fdI ["word"] []) (gI : mg "whole_in" = some (.ref fI))
    (FN : Fun K "number_in" "number_in" sNum fN fdN) (bN : Binds K fdN ["word"] []) (gN : mg "number_in" = some (.ref fN))
    (FW : Fun K "_law_whole" "_law_whole" sWhole fW fdW) (bW : Binds K fdW ["found"] []) (gW : mg "_law_whole" = some (.ref fW)) (T : Names mg) :
    FnOk P w K mg base CX0 3 f fd ["number", "kind", "place"] spGood := by
  have GI : FnOk P w K mg base CX0 2 fI fdI ["word"] spIn := ok_in FI FN bN gN T
  have GW : FnOk P w K mg base CX0 1 fW fdW ["found"] spWhole := ok_whole FW T
  refine F.ok scGood (fun vs H Q E h => ?_) (fun cdv A outer s H vs Q E hr h => ?_)
  · obtain ⟨n, k, p, rfl, _⟩ := h
    rfl
  · obtain ⟨n, k, p, rfl, hn, q⟩ := h
    refine ⟨_, pss_cons (ps_set (i := 3) scGood.nd rfl (Or.inl rfl) (pe_callTy call_str_int (by rfl) T.str (by decide +kernel) (pa_cons (pv 0) pa_nil)))
      (pss_cons (ps_set (i := 4) scGood.nd rfl (Or.inl rfl) (pv 0))
      (pss_cons (ps_if (pt_cmpR op_eq (pv 1) pe_int (nomark _)) (pss_cons (ps_set (i := 3) scGood.nd rfl (Or.inl rfl) (pe_op op_add_str pe_str (pv 3))) (pss_one (ps_set (i := 4) scGood.nd rfl (Or.inl rfl) (pe_un un_neg (pv 0))))) pss_nil)
      (pss_cons (ps_if (pt_cmpR op_eq (pv 1) pe_int (nomark _)) (pss_cons (ps_set (i := 4) scGood.nd rfl (Or.inl rfl) (pe_op op_sub (pe_op op_add (pv 0) pe_int) (pe_op op_pow pe_int pe_int)))
        (pss_one (ps_set (i := 3) scGood.nd rfl (Or.inl rfl) (pe_callTy call_str_int (by rfl) T.str (by decide +kernel) (pa_cons (pv 4) pa_nil))))) pss_nil)
      (pss_cons (ps_set (i := 5) scGood.nd rfl (Or.inl rfl) (pe_call GI hr (by rfl) gI FI.kp bI .nil pass0 (pa_cons (pv 3) pa_nil)))
      (pss_cons (ps_if (PW.pt (pw_and (pt_cmpR op_eq (pv 1) pe_int (nomark _)) (pw_and1 (pt_cmpR op_eq (pv 0) pe_int (nomark _))))) (pss_one (ps_ret (pe_cmpR op_isN (pv 5) pe_non (nomark _)))) pss_nil)
      (pss_one (ps_ret (pe_and (pe_call GW (hr.mono (by decide)) (by rfl) gW FW.kp bW .nil pass0 (pa_cons (pv 5) pa_nil)) (pe_one (pe_cmpR op_eq (pv 5) (pv 4) (nomark _))))))))))), ?_⟩
    have hX : tl (Str.ofString (toString (n : Int))) = numL n := TL.tl_num n
    have hXl : (Str.ofString (toString (n : Int))).length ≤ 20 := num_len (by omega)
    have hpow : CPow 10 18 := ⟨by decide, by decide, by decide⟩
    refine ⟨_, rfl, (n : Int), rfl, log2_small (by omega), _, rfl, _, rfl, rfl, _, rfl, ite2 (fun e1 => ?_) (fun e1 => ?_)⟩
    · have k1 : k = 1 := V.int.inj (of_decide_eq_true e1)
      subst k1
      have hM : tl (Str.ofString "-" ++ Str.ofString (toString (n : Int))) = 45 :: numL n := by
        rw [TL.tl_append, minus1, hX]
        rfl
      have hMl : (Str.ofString "-" ++ Str.ofString (toString (n : Int))).length ≤ 21 := by
        rw [app_len, len_minus]
        omega
      refine ⟨_, rfl, _, _, rfl, rfl, fits (by rw [len_minus]; omega), _, rfl, _, rfl, _, rfl, rfl, _, rfl, iteF ?_⟩
      refine ⟨_, rfl, _, rfl, Nat.le_trans hMl (by decide), ?_⟩
      rw [hM]
      by_cases h0 : n = 0
      · subst h0
        rw [good1z]
        exact ⟨_, rfl, rfl, _, rfl, iteT ⟨_, rfl, rfl, _, rfl, iteT ⟨_, rfl, rfl, q⟩⟩⟩
      · rw [good1 hn h0]
        refine ⟨_, rfl, rfl, _, rfl, iteT ⟨_, rfl, rfl, _, rfl, ite2 (fun e2 => ?_) (fun e2 => ?_)⟩⟩
        · have n0 : (n : Int) = 0 := V.int.inj (of_decide_eq_true e2)
          exact absurd (by omega) h0
        · refine ⟨_, rfl, some (-(n : Int)), rfl, true, rfl, iteT ⟨_, rfl, _, rfl, rfl, ?_⟩⟩
          rw [decide_eq_true (show optV (some (-(n : Int))) = V.int (-(n : Int)) from rfl)]
          exact q
    · have k1 : ¬ decide (V.int k = V.int 1) = true := e1
      refine ⟨_, rfl, rfl, _, rfl, ite2 (fun e2 => ?_) (fun e2 => ?_)⟩
      · obtain ⟨g1, g2⟩ := good2 hn
        have hd : (n : Int) + 1 - 10 ^ (18 : Int).toNat = (n : Int) + 1 - 1000000000000000000 := by rw [ten18]
        refine ⟨_, rfl, _, _, rfl, rfl, _, _, rfl, rfl, hpow, _, _, rfl, rfl, _, rfl, _, congrArg (fun t => [V.int t]) hd, log2_small (by omega), ?_⟩
        refine ⟨_, rfl, _, rfl, g2, ?_⟩
        rw [g1]
        refine ⟨_, rfl, rfl, _, rfl, ite2 (fun e3 => absurd e3 k1) (fun _ => iteF ?_)⟩
        refine ⟨_, rfl, some _, rfl, true, rfl, iteT ⟨_, rfl, _, rfl, rfl, ?_⟩⟩
        show Q (.bl (decide (optV (some ((n : Int) + 1 - 1000000000000000000)) = V.int ((n : Int) + 1 - 10 ^ (18 : Int).toNat)))) H
        rw [hd, decide_eq_true (show optV (some ((n : Int) + 1 - 1000000000000000000)) = V.int ((n : Int) + 1 - 1000000000000000000) from rfl)]
        exact q
      · refine ⟨_, rfl, _, rfl, Nat.le_trans hXl (by decide), ?_⟩
        rw [hX, good0 hn]
        refine ⟨_, rfl, rfl, _, rfl, ite2 (fun e3 => absurd e3 k1) (fun _ => iteF ?_)⟩
        refine ⟨_, rfl, some _, rfl, true, rfl, iteT ⟨_, rfl, _, rfl, rfl, ?_⟩⟩
        rw [decide_eq_true (show optV (some (n : Int)) = V.int (n : Int) from rfl)]
        exact q

/-! ### the law -/
def spLaw (K : PySem.W.Frag) : Sp := fun vs H Q _ => ∃ (a : Addr) (ns : List Int), vs = [.ref a] ∧ SqL K H a (ns.map V.int) ∧ ns.length ≤ 63 ∧ ∀ H', Q (.bl true) H'
theorem near {i : Int} (h1 : -1000 ≤ i) (h2 : i ≤ 1000) : Builtin.Range.rangeFitsLong i = true := by
  unfold Builtin.Range.rangeFitsLong
  rw [decide_eq_true (Int.le_trans (by decide) h1), decide_eq_true (Int.lt_of_le_of_lt h2 (by decide))]
  rfl
theorem turns {m : Nat} (h : m ≤ 63) : RgC 0 ((m : Int) + 1) 3 (m / 3 + 1) := by
  have e : Builtin.Range.rangeSize 0 ((m : Int) + 1) 3 = ((m / 3 + 1 : Nat) : Int) := by
    unfold Builtin.Range.rangeSize
    rw [if_pos (by decide), if_pos (by omega)]
    omega
  refine ⟨by decide, by decide, ?_, e⟩
  unfold Builtin.Range.small
  rw [e, near (by decide) (by decide), near (by omega) (by omega), near (by decide) (by decide), near (by omega) (by omega), if_pos (show (3 : Int) > 0 by decide), near (by omega) (by omega), Bool.or_true]
  rfl
theorem ok_law {f fC fM fG fI fB fW fN fO fS : Addr} {fd fdC fdM fdG fdI fdB fdW fdN fdO fdS : FuncData} (F : Fun K "law" "law" sLaw f fd)
    (FC : Fun K "_law_cell_at" "_law_cell_at" sCell fC fdC) (bC : Binds K fdC ["script", "k"] []) (gC : mg "_law_cell_at" = some (.ref fC))
    (FM : Fun K "_law_number" "_law_number" sNumber fM fdM) (bM : Binds K fdM ["cell", "way"] []) (gM : mg "_law_number" = some (.ref fM))
    (FG : Fun K "_law_good" "_law_good" sGood fG fdG) (bG : Binds K fdG ["number", "kind", "place"] []) (gG : mg "_law_good" = some (.ref fG))
    (FI : Fun K "whole_in" "whole_in" sIn fI fdI) (bI : Binds K fdI ["word"] []) (gI : mg "whole_in" = some (.ref fI))
    (FB : Fun K "_law_bad_word" "_law_bad_word" sBad fB fdB) (bB : Binds K fdB ["number", "kind", "place"] []) (gB : mg "_law_bad_word" = some (.ref fB))
    (FW : Fun K "whole_word" "whole_word" sWord fW fdW) (bW : Binds K fdW ["number"] []) (gW : mg "whole_word" = some (.ref fW))
    (FN : Fun K "number_in" "number_in" sNum fN fdN) (bN : Binds K fdN ["word"] []) (gN : mg "number_in" = some (.ref fN))
    (FO : Fun K "_law_whole" "_law_whole" sWhole fO fdO) (bO : Binds K fdO ["found"] []) (gO : mg "_law_whole" = some (.ref fO))
    (FS : Fun K "_law_strange" "_law_strange" sStrange fS fdS) (bS : Binds K fdS ["cell"] []) (gS : mg "_law_strange" = some (.ref fS)) (T : Names mg) :
    FnOk P w K mg base CX0 4 f fd ["script"] (spLaw K) := by
  have GC : FnOk P w K mg base CX0 1 fC fdC ["script", "k"] (spCellAt K) := ok_cell FC T
  have GM : FnOk P w K mg base CX0 1 fM fdM ["cell", "way"] spNumber := ok_number FM
  have GG : FnOk P w K mg base CX0 3 fG fdG ["number", "kind", "place"] spGood := ok_good FG FI bI gI FN bN gN FO bO gO T
  have GI : FnOk P w K mg base CX0 2 fI fdI ["word"] spIn := ok_in FI FN bN gN T
  have GB : FnOk P w K mg base CX0 2 fB fdB ["number", "kind", "place"] spBad := ok_bad FB FS bS gS T
  have GW : FnOk P w K mg base CX0 1 fW fdW ["number"] spWord := ok_word FW T
  refine F.ok scLaw (fun vs H Q E h => ?_) (fun cdv A outer s H vs Q E hr h => ?_)
  · obtain ⟨a, ns, rfl, _⟩ := h
    rfl
  · obtain ⟨a, ns, rfl, hS, hlen, q⟩ := h
    have hr1 : Room 1 _ := hr.mono (by decide)
    have hr2 : Room 2 _ := hr.mono (by decide)
    refine ⟨_, pss_cons (ps_for PassesOwn.never rfl (pi_range3 (by rfl) T.range (pa_cons pe_int (pa_cons (pe_op op_add (pe_callB call_len_seq (by rfl) T.len PySem.boot_len (pa_cons (pv 0) pa_nil)) pe_int) (pa_cons pe_int pa_nil)))) (pg_name (i := 1) scLaw.nd rfl (Or.inl rfl))
        (pss_cons (ps_set (i := 2) scLaw.nd rfl (Or.inl rfl) (pe_call GC hr1 (by rfl) gC FC.kp bC .nil pass0 (pa_cons (pv 0) (pa_cons (pe_op op_add (pv 1) pe_int) pa_nil))))
        (pss_cons (ps_set (i := 3) scLaw.nd rfl (Or.inl rfl) (pe_call GM hr1 (by rfl) gM FM.kp bM .nil pass0 (pa_cons (pe_call GC hr1 (by rfl) gC FC.kp bC .nil pass0 (pa_cons (pv 0) (pa_cons (pv 1) pa_nil))) (pa_cons (pe_op op_fdiv (pv 2) pe_int) pa_nil))))
        (pss_cons (ps_set (i := 4) scLaw.nd rfl (Or.inl rfl) (pe_op op_mod (pv 2) pe_int))
        (pss_cons (ps_set (i := 5) scLaw.nd rfl (Or.inl rfl) (pe_op op_mod (pe_call GC hr1 (by rfl) gC FC.kp bC .nil pass0 (pa_cons (pv 0) (pa_cons (pe_op op_add (pv 1) pe_int) pa_nil))) pe_int))
        (C8.pss_cut (ps_if (pt_cmpR op_lt (pv 4) pe_int (nomark _))
            (pss_one (ps_if (pt_not (pt_val (pe_call GG hr (by rfl) gG FG.kp bG .nil pass0 (pa_cons (pv 3) (pa_cons (pv 4) (pa_cons (pv 5) pa_nil)))))) (pss_one (ps_ret pe_bl)) pss_nil))
            (pss_one (ps_if (pt_cmpR op_notN (pe_call GI hr2 (by rfl) gI FI.kp bI .nil pass0 (pa_cons (pe_call GB hr2 (by rfl) gB FB.kp bB .nil pass0 (pa_cons (pv 3) (pa_cons (pv 4) (pa_cons (pv 5) pa_nil)))) pa_nil)) pe_non (nomark _))
              (pss_one (ps_ret pe_bl)) pss_nil)))
        (pss_one (ps_for PassesOwn.never rfl (pi_list (pe_lst (pa_cons (pv 3) (pa_cons (pe_un un_neg (pv 3)) pa_nil)))) (pg_name (i := 6) scLaw.nd rfl (Or.inl rfl))
          (pss_cons (ps_set (i := 7) scLaw.nd rfl (Or.inl rfl) (pe_call GW hr1 (by rfl) gW FW.kp bW .nil pass0 (pa_cons (pv 6) pa_nil)))
          (pss_one (ps_if (PW.pt (pw_or (pt_not (pt_val (pe_callB call_isi (by rfl) T.isi (by decide +kernel) (pa_cons (pv 7) (pa_cons (pe_bltn (v := .ty "str") (by rfl) T.str PyProof.Rows.boot_str rfl) pa_nil)))))
            (pw_or1 (pt_cmpR op_ne (pv 7) (pe_callTy call_str_int (by rfl) T.str (by decide +kernel) (pa_cons (pv 6) pa_nil)) (nomark _))))) (pss_one (ps_ret pe_bl)) pss_nil)))))))))))
      (pss_one (ps_ret pe_bl)), ?_⟩
    have hln : (ns.map V.int).length = ns.length := List.length_map ..
    refine ⟨_, rfl, a, _, rfl, .inl hS, _, _, rfl, rfl, _, _, _, ns.length / 3 + 1, rfl, (by rw [hln]; exact turns hlen),
      for_rangeC (lo := 0) (c := 3) (n := ns.length / 3 + 1) (fun _ σ H' => Same H H' ∧ ∃ y1 y2 y3 y4 y5 y6 y7, σ = [some (.ref a), y1, y2, y3, y4, y5, y6, y7]) ⟨Same.refl H, none, none, none, none, none, none, none, rfl⟩ ?_ (fun σ H' _ => q H')⟩
    rintro i σ H1 hi ⟨sm, y1, y2, y3, y4, y5, y6, y7, rfl⟩
    have hS1 : SqL K H1 a (ns.map V.int) := sm.seq hS
    have at0 : ([V.ref a, V.int (0 + ((i : Nat) : Int) * 3)] : List V) = [V.ref a, V.int ((3 * i : Nat) : Int)] := congrArg (fun t => [V.ref a, V.int t]) (by omega)
    have at1 : ([V.ref a, V.int (0 + ((i : Nat) : Int) * 3 + 1)] : List V) = [V.ref a, V.int ((3 * i + 1 : Nat) : Int)] := congrArg (fun t => [V.ref a, V.int t]) (by omega)
    have at2 : ([V.ref a, V.int (0 + ((i : Nat) : Int) * 3 + 2)] : List V) = [V.ref a, V.int ((3 * i + 2 : Nat) : Int)] := congrArg (fun t => [V.ref a, V.int t]) (by omega)
    refine ⟨_, rfl, _, rfl, _, _, rfl, rfl, a, ns, 3 * i + 1, at1, hS1, fun way => ?_⟩
    refine ⟨_, rfl, _, rfl, a, ns, 3 * i, at0, hS1, fun c => ⟨_, rfl, _, _, rfl, rfl, ⟨by decide, by decide⟩, _, _, rfl, fun n hn => ?_⟩⟩
    refine ⟨_, rfl, _, _, rfl, rfl, (by show (0 : Int) < 10; decide), ?_⟩
    refine ⟨_, rfl, _, rfl, _, _, rfl, rfl, a, ns, 3 * i + 2, at2, hS1, fun pl => ⟨_, _, rfl, rfl, (by show (0 : Int) < 3000; decide), ?_⟩⟩
    refine ⟨fun σ' H' => Same H H' ∧ ∃ y1 y2 y4 y5 y6 y7, σ' = [some (.ref a), y1, y2, some (.int (n : Int)), y4, y5, y6, y7], ?_, ?_⟩
    · refine ⟨_, rfl, _, _, rfl, rfl, _, rfl, ite2 (fun _ => ?_) (fun _ => ?_)⟩
      · exact ⟨_, rfl, _, rfl, _, rfl, n, _, _, rfl, hn, true, rfl, iteF ⟨sm, _, _, _, _, _, _, rfl⟩⟩
      · refine ⟨_, rfl, _, rfl, _, rfl, n, _, _, rfl, hn, fun z H2 sm2 hz hb => ⟨z, rfl, hz, ?_⟩⟩
        rw [hb]
        exact ⟨rfl, _, rfl, iteF ⟨sm.trans sm2, _, _, _, _, _, _, rfl⟩⟩
    · rintro σ' H2 ⟨sm2, x1, x2, x4, x5, x6, x7, rfl⟩
      refine ⟨_, rfl, _, rfl, (n : Int), rfl, fits (by show 2 ≤ 1000; decide), fun p hp => ⟨p, rfl, ⟨_, SqL.of upd_same⟩, ?_⟩⟩
      refine for_list (K := K) (a := p) (xs := [V.int (n : Int), V.int (-(n : Int))]) (fun _ σ H' => Same H H' ∧ H' p = some (.lst [V.int (n : Int), V.int (-(n : Int))]) ∧ ∃ z6 z7, σ = [some (.ref a), x1, x2, some (.int (n : Int)), x4, x5, z6, z7])
        ⟨sm2.trans (same_upd hp), upd_same, _, _, rfl⟩ (fun _ _ _ _ h => SqL.of h.2.1) ?_ (fun σ H' h => ?_)
      · rintro j x σ H3 hx ⟨sm3, hl, z6, z7, rfl⟩
        obtain ⟨m, rfl, hm⟩ : ∃ m : Int, x = V.int m ∧ m.natAbs < 2 ^ 64 := by
          have hmem := List.mem_of_getElem? hx
          rcases List.mem_cons.mp hmem with e | e
          · exact ⟨_, e, by omega⟩
          · exact ⟨_, List.mem_singleton.mp e, by omega⟩
        refine ⟨_, rfl, m, rfl, hm, ?_⟩
        refine ⟨_, rfl, _, .ty "str", .type "str", .type "str", true, rfl, .ty "str", .base (.str _), kit_ty (by decide +kernel), true, rfl, iteF ?_⟩
        exact ⟨_, rfl, _, rfl, m, rfl, log2_small hm, rfl, _, rfl, iteNS rfl ⟨sm3, hl, _, _, rfl⟩⟩
      · obtain ⟨sm3, _, z6, z7, rfl⟩ := h
        exact ⟨sm3, _, _, _, _, _, _, _, rfl⟩
end
/-! ## What the top has left -/
theorem all_mk {l : PySem.W.OpenLaw} {w : World} {K : PySem.W.Frag} {h : Heap} {mg : Str → Option Value} {fa f1 f2 f3 f4 f5 f6 f7 f8 f9 f10 : Addr} (X : K.In h) (G : h.Ns mainGlobals mg) (hfa : mg "law" = some (.ref fa))
    {od1 an1 od2 an2 od3 an3 od4 an4 od5 an5 od6 an6 od7 an7 od8 an8 od9 an9 od10 an10 : Option Addr} {sl1 sl2 sl3 sl4 sl5 sl6 sl7 sl8 sl9 sl10 : Array (Option Value)} {tF : Tok}
    {oc1 kV1 dc1 pm1 cd1 ct1 oc2 kV2 dc2 pm2 cd2 ct2 oc3 kV3 dc3 pm3 cd3 ct3 oc4 kV4 dc4 pm4 cd4 ct4 oc5 kV5 dc5 pm5 cd5 ct5 oc6 kV6 dc6 pm6 cd6 ct6 oc7 kV7 dc7 pm7 cd7 ct7 oc8 kV8 dc8 pm8 cd8 ct8 oc9 kV9 dc9 pm9 cd9 ct9 oc10 kV10 dc10 pm10 cd10 ct10 : Value}
    (a1 : PySem.W.nsIn K mainGlobals "number_in" = some (some (.ref f1)))
    (l1 : K.lookup f1 = some ⟨oc1, od1, .func (PySem.W.fnOf "number_in" "number_in" (defArgs sNum) (defBody sNum) (defScope sNum) .none kV1 dc1 pm1 an1 cd1 ct1), sl1⟩)
    (c1 : PySem.W.codeIn K cd1 "number_in" = true) (k1 : PySem.W.keepIn K (.ref f1) = true)
    (a2 : PySem.W.nsIn K mainGlobals "whole_in" = some (some (.ref f2)))
    (l2 : K.lookup f2 = some ⟨oc2, od2, .func (PySem.W.fnOf "whole_in" "whole_in" (defArgs sIn) (defBody sIn) (defScope sIn) .none kV2 dc2 pm2 an2 cd2 ct2), sl2⟩)
    (c2 : PySem.W.codeIn K cd2 "whole_in" = true) (k2 : PySem.W.keepIn K (.ref f2) = true)
    (a3 : PySem.W.nsIn K mainGlobals "whole_word" = some (some (.ref f3)))
    (l3 : K.lookup f3 = some ⟨oc3, od3, .func (PySem.W.fnOf "whole_word" "whole_word" (defArgs sWord) (defBody sWord) (defScope sWord) .none kV3 dc3 pm3 an3 cd3 ct3), sl3⟩)
    (c3 : PySem.W.codeIn K cd3 "whole_word" = true) (k3 : PySem.W.keepIn K (.ref f3) = true)
    (a4 : PySem.W.nsIn K mainGlobals "_law_whole" = some (some (.ref f4)))
    (l4 : K.lookup f4 = some ⟨oc4, od4, .func (PySem.W.fnOf "_law_whole" "_law_whole" (defArgs sWhole) (defBody sWhole) (defScope sWhole) .none kV4 dc4 pm4 an4 cd4 ct4), sl4⟩)
    (c4 : PySem.W.codeIn K cd4 "_law_whole" = true) (k4 : PySem.W.keepIn K (.ref f4) = true)
    (a5 : PySem.W.nsIn K mainGlobals "_law_cell_at" = some (some (.ref f5)))
    (l5 : K.lookup f5 = some ⟨oc5, od5, .func (PySem.W.fnOf "_law_cell_at" "_law_cell_at" (defArgs sCell) (defBody sCell) (defScope sCell) .none kV5 dc5 pm5 an5 cd5 ct5), sl5⟩)
    (c5 : PySem.W.codeIn K cd5 "_law_cell_at" = true) (k5 : PySem.W.keepIn K (.ref f5) = true)
    (a6 : PySem.W.nsIn K mainGlobals "_law_number" = some (some (.ref f6)))
    (l6 : K.lookup f6 = some ⟨oc6, od6, .func (PySem.W.fnOf "_law_number" "_law_number" (defArgs sNumber) (defBody sNumber) (defScope sNumber) .none kV6 dc6 pm6 an6 cd6 ct6), sl6⟩)
    (c6 : PySem.W.codeIn K cd6 "_law_number" = true) (k6 : PySem.W.keepIn K (.ref f6) = true)
    (a7 : PySem.W.nsIn K mainGlobals "_law_strange" = some (some (.ref f7)))
    (l7 : K.lookup f7 = some ⟨oc7, od7, .func (PySem.W.fnOf "_law_strange" "_law_strange" (defArgs sStrange) (defBody sStrange) (defScope sStrange) .none kV7 dc7 pm7 an7 cd7 ct7), sl7⟩)
    (c7 : PySem.W.codeIn K cd7 "_law_strange" = true) (k7 : PySem.W.keepIn K (.ref f7) = true)
    (a8 : PySem.W.nsIn K mainGlobals "_law_bad_word" = some (some (.ref f8)))
    (l8 : K.lookup f8 = some ⟨oc8, od8, .func (PySem.W.fnOf "_law_bad_word" "_law_bad_word" (defArgs sBad) (defBody sBad) (defScope sBad) .none kV8 dc8 pm8 an8 cd8 ct8), sl8⟩)
    (c8 : PySem.W.codeIn K cd8 "_law_bad_word" = true) (k8 : PySem.W.keepIn K (.ref f8) = true)
    (a9 : PySem.W.nsIn K mainGlobals "_law_good" = some (some (.ref f9)))
    (l9 : K.lookup f9 = some ⟨oc9, od9, .func (PySem.W.fnOf "_law_good" "_law_good" (defArgs sGood) (defBody sGood) (defScope sGood) .none kV9 dc9 pm9 an9 cd9 ct9), sl9⟩)
    (c9 : PySem.W.codeIn K cd9 "_law_good" = true) (k9 : PySem.W.keepIn K (.ref f9) = true)
    (a10 : PySem.W.nsIn K mainGlobals "law" = some (some (.ref f10)))
    (l10 : K.lookup f10 = some ⟨oc10, od10, .func (PySem.W.fnOf "law" "law" (defArgs sLaw) (defBody sLaw) (defScope sLaw) .none kV10 dc10 pm10 an10 cd10 ct10), sl10⟩)
    (c10 : PySem.W.codeIn K cd10 "law" = true) (k10 : PySem.W.keepIn K (.ref f10) = true)
    (z0 : PySem.W.nsIn K mainGlobals "len" = some none)
    (z1 : PySem.W.nsIn K mainGlobals "int" = some none)
    (z2 : PySem.W.nsIn K mainGlobals "str" = some none)
    (z3 : PySem.W.nsIn K mainGlobals "bool" = some none)
    (z4 : PySem.W.nsIn K mainGlobals "isinstance" = some none)
    (z5 : PySem.W.nsIn K mainGlobals "range" = some none)
    (zF : PySem.W.nsIn K mainGlobals "FIGURES" = some (some (.str "0123456789" tF))) :
    ∃ fd : FuncData, (∀ (s : Shared) (v : Value), BindsTo s fd ⟨[v], []⟩ [("script", v)]) ∧ ∀ base : Heap, K.In base → base.Ns mainGlobals mg → FnOk l.prog w K mg base CX0 4 fa fd ["script"] (spLaw K) := by
  have e := hfa.symm.trans (PySem.W.mg_of X G a10)
  cases e
  have T : Names mg := ⟨PySem.W.mg_none_of X G z0, PySem.W.mg_none_of X G z1, PySem.W.mg_none_of X G z2, PySem.W.mg_none_of X G z3, PySem.W.mg_none_of X G z4, PySem.W.mg_none_of X G z5, ⟨tF, PySem.W.mg_of X G zF⟩⟩
  have F1 := fun_mk (st := sNum) l1 c1 k1
  have b1 := F1.binds (ps := ["word"]) fun _ _ _ _ _ _ us hl => match us, hl with | [_], _ => rfl
  have g1 := PySem.W.mg_of X G a1
  have F2 := fun_mk (st := sIn) l2 c2 k2
  have b2 := F2.binds (ps := ["word"]) fun _ _ _ _ _ _ us hl => match us, hl with | [_], _ => rfl
  have g2 := PySem.W.mg_of X G a2
  have F3 := fun_mk (st := sWord) l3 c3 k3
  have b3 := F3.binds (ps := ["number"]) fun _ _ _ _ _ _ us hl => match us, hl with | [_], _ => rfl
  have g3 := PySem.W.mg_of X G a3
  have F4 := fun_mk (st := sWhole) l4 c4 k4
  have b4 := F4.binds (ps := ["found"]) fun _ _ _ _ _ _ us hl => match us, hl with | [_], _ => rfl
  have g4 := PySem.W.mg_of X G a4
  have F5 := fun_mk (st := sCell) l5 c5 k5
  have b5 := F5.binds (ps := ["script", "k"]) fun _ _ _ _ _ _ us hl => match us, hl with | [_, _], _ => rfl
  have g5 := PySem.W.mg_of X G a5
  have F6 := fun_mk (st := sNumber) l6 c6 k6
  have b6 := F6.binds (ps := ["cell", "way"]) fun _ _ _ _ _ _ us hl => match us, hl with | [_, _], _ => rfl
  have g6 := PySem.W.mg_of X G a6
  have F7 := fun_mk (st := sStrange) l7 c7 k7
  have b7 := F7.binds (ps := ["cell"]) fun _ _ _ _ _ _ us hl => match us, hl with | [_], _ => rfl
  have g7 := PySem.W.mg_of X G a7
  have F8 := fun_mk (st := sBad) l8 c8 k8
  have b8 := F8.binds (ps := ["number", "kind", "place"]) fun _ _ _ _ _ _ us hl => match us, hl with | [_, _, _], _ => rfl
  have g8 := PySem.W.mg_of X G a8
  have F9 := fun_mk (st := sGood) l9 c9 k9
  have b9 := F9.binds (ps := ["number", "kind", "place"]) fun _ _ _ _ _ _ us hl => match us, hl with | [_, _, _], _ => rfl
  have g9 := PySem.W.mg_of X G a9
  have F10 := fun_mk (st := sLaw) l10 c10 k10
  exact ⟨PySem.W.fnOf "law" "law" (defArgs sLaw) (defBody sLaw) (defScope sLaw) .none kV10 dc10 pm10 an10 cd10 ct10, fun s v => .of_eq rfl, fun base _ _ =>
    ok_law F10 F5 b5 g5 F6 b6 g6 F9 b9 g9 F2 b2 g2 F8 b8 g8 F3 b3 g3 F1 b1 g1 F4 b4 g4 F7 b7 g7 T⟩
end K44

open PySem PySem.W
set_option maxRecDepth 100000 in
set_option maxHeartbeats 0 in
theorem PySem.Challenge.cw_wirefloor_k44_whole_numbers_holds : PySem.Challenge.rw_wirefloor_k44_whole_numbers.Holds := by
  w_on; o_law; k_head; (case hw => w_witness2)
  k_fill
  refine L2.walk_of (l := PySem.Challenge.rw_wirefloor_k44_whole_numbers) (n := 63) (k := 4) (x := "script") (CX := fun _ => L2.CX0) (sp := fun w => K44.spLaw _) rfl (by decide) rfl ⟨rfl, by decide, by decide⟩ (fun w h Y => PySem.W.kIn_of Y) ?F
    (fun _ _ a ns hl _ hS => ⟨a, ns, rfl, hS, hl, fun _ => rfl⟩) (fun _ _ _ _ _ h => h)
  case F =>
    intro w mg fa h KX G hmg
    refine' K44.all_mk KX G hmg ?a1 ?l1 ?c1 ?k1 ?a2 ?l2 ?c2 ?k2 ?a3 ?l3 ?c3 ?k3 ?a4 ?l4 ?c4 ?k4 ?a5 ?l5 ?c5 ?k5 ?a6 ?l6 ?c6 ?k6 ?a7 ?l7 ?c7 ?k7 ?a8 ?l8 ?c8 ?k8 ?a9 ?l9 ?c9 ?k9 ?a10 ?l10 ?c10 ?k10 ?z0 ?z1 ?z2 ?z3 ?z4 ?z5 ?zF
    (case a1 => k_is)
    (case l1 => k_is)
    (case c1 => k_is)
    (case k1 => k_is)
    (case a2 => k_is)
    (case l2 => k_is)
    (case c2 => k_is)
    (case k2 => k_is)
    (case a3 => k_is)
    (case l3 => k_is)
    (case c3 => k_is)
    (case k3 => k_is)
    (case a4 => k_is)
    (case l4 => k_is)
    (case c4 => k_is)
    (case k4 => k_is)
    (case a5 => k_is)
    (case l5 => k_is)
    (case c5 => k_is)
    (case k5 => k_is)
    (case a6 => k_is)
    (case l6 => k_is)
    (case c6 => k_is)
    (case k6 => k_is)
    (case a7 => k_is)
    (case l7 => k_is)
    (case c7 => k_is)
    (case k7 => k_is)
    (case a8 => k_is)
    (case l8 => k_is)
    (case c8 => k_is)
    (case k8 => k_is)
    (case a9 => k_is)
    (case l9 => k_is)
    (case c9 => k_is)
    (case k9 => k_is)
    (case a10 => k_is)
    (case l10 => k_is)
    (case c10 => k_is)
    (case k10 => k_is)
    (case z0 => k_is)
    (case z1 => k_is)
    (case z2 => k_is)
    (case z3 => k_is)
    (case z4 => k_is)
    (case z5 => k_is)
    (case zF => k_is)
